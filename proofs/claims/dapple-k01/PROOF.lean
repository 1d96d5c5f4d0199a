import PyProof.Rows.All
import Wide.All
import OpenK.AllK
import Wide.FinOn
import HandS.ForMost
import HandS.Exc
import HandS.Dict
import HandS.WordsExc
import HandS.CallSlots
import HandS.IsInst
import HandS.Deep
import HandS.WordsDict
import HandS.Defaults
import HandS.HeadEnd
import HandS.HeadHook2
import HandS.Head2
import HandS.Replace
import HandS.SetFor
import HandS.Small
import HandS.ExcIs
import HandS.TryOnly
import HandS.TryMany
import HandS.TryElse
import HandS.Style
import HandS.More
import HandS.Sort
import PyProof.StrOps2
import HandS.Codes
import HandS.NoneIn
import KE.DataMinMax
import HandS.SortKw
import HandS.Conv
import HandS.FStr
import HandS.SortRule
import KE.GoesRaise
import PySem.Challenge.RW_dapple_k01_sums_and_products
set_option Elab.async false
set_option linter.all false
set_option maxRecDepth 100000
set_option maxHeartbeats 0
namespace Rf
open PySem L2

/-- who may change a thing: own (here alone), shr (nobody any more), con (a thing of the module, or the script) -/
inductive Ow where
  | own | shr | con
  deriving DecidableEq
/-- what a container is -/
inductive Kd where
  | lst | tup | dic (ks : List Key) | dit (ks : List (List Key)) | ins (c : Nat) (ns : List Str)
  deriving DecidableEq
/-- data as trees -/
inductive D where
  | abs | non | bl (b : Bool) | int (i : Int) | str (s : Str)
  | obj (o : Ow) (k : Kd) (ds : List D)
  | pin (a : Addr) (u : HO)

mutual
def frz : D → D
  | .obj o k ds => if o = .own then .obj .shr k (frzs ds) else .obj o k ds
  | .abs => .abs
  | .non => .non
  | .bl b => .bl b
  | .int i => .int i
  | .str s => .str s
  | .pin a u => .pin a u
def frzs : List D → List D
  | [] => []
  | d :: ds => frz d :: frzs ds
end
def Ex (H H' : Hp) : Prop := ∀ a o, H a = some o → H' a = some o
theorem Ex.refl (H : Hp) : Ex H H := fun _ _ h => h
theorem Ex.trans {H H1 H2 : Hp} (a : Ex H H1) (b : Ex H1 H2) : Ex H H2 := fun x o h => b x o (a x o h)
theorem Ex.no {H H' : Hp} (e : Ex H H') {a : Addr} (h : H' a = none) : H a = none := by
  cases q : H a with
  | none => rfl
  | some o => rw [e a o q] at h; cases h
theorem Ex.rd {H H' : Hp} {a : Addr} {u : HO} (e : Ex H H') (h : Rd H a u) : Rd H' a u := by
  rcases h with h | ⟨o, h⟩
  · exact .inl (e _ _ h)
  · exact .inr ⟨o, e _ _ h⟩
theorem Ex.sl {K : PySem.W.Frag} {H H' : Hp} {a : Addr} {xs : List V} (e : Ex H H') (h : SqL K H a xs) : SqL K H' a xs := by
  rcases h with h | h
  · exact .inl (e.rd h)
  · exact .inr h
theorem Ex.st {K : PySem.W.Frag} {H H' : Hp} {a : Addr} {xs : List V} (e : Ex H H') (h : SqT K H a xs) : SqT K H' a xs := by
  rcases h with h | h
  · exact .inl (e.rd h)
  · exact .inr h

section
variable (K : PySem.W.Frag) (cl : Nat → Addr)
/-- a container with these children, as it stands -/
def kHO : Kd → List V → HO → Prop
  | .lst, vs, u => u = .lst vs
  | .tup, vs, u => u = .tup vs
  | .dic ks, vs, u => u = .dK (ks.zip vs) ∧ ks.length = vs.length
  | .dit ks, vs, u => u = .dT (ks.zip vs) ∧ ks.length = vs.length
  | .ins c ns, vs, u => ∃ dx, u = .ins (cl c) dx (ns.zip vs) ∧ ns.length = vs.length
def kCon (F : Hp) (a : Addr) : Kd → List V → Prop
  | .lst, vs => SqL K F a vs
  | .tup, vs => SqT K F a vs
  | .dic ks, vs => Rd F a (.dK (ks.zip vs)) ∧ ks.length = vs.length
  | _, _ => False
def Node (F H : Hp) (a : Addr) (o : Ow) (k : Kd) (vs : List V) (fp fps : List Addr) : Prop := match o with
  | .own => F a = none ∧ (∃ u, H a = some u ∧ kHO cl k vs u) ∧ fp = a :: fps
  | .shr => (∃ u, F a = some u ∧ kHO cl k vs u) ∧ fp = [] ∧ fps = []
  | .con => kCon K F a k vs ∧ fp = [] ∧ fps = []
variable (F H : Hp)
mutual
def Rep : D → V → List Addr → Prop
  | .abs, _, fp => fp = []
  | .non, v, fp => v = .non ∧ fp = []
  | .bl b, v, fp => v = .bl b ∧ fp = []
  | .int i, v, fp => v = .int i ∧ fp = []
  | .str s, v, fp => v = .str s ∧ fp = []
  | .pin a u, _, fp => F a = some u ∧ fp = []
  | .obj o k ds, v, fp => ∃ a vs fps, v = .ref a ∧ Node K cl F H a o k vs fp fps ∧ Reps ds vs fps
def Reps : List D → List V → List Addr → Prop
  | [], vs, fp => vs = [] ∧ fp = []
  | d :: ds, vs, fp => ∃ v vr f1 f2, vs = v :: vr ∧ fp = f1 ++ f2 ∧ Rep d v f1 ∧ Reps ds vr f2
end
end

section
variable {K : PySem.W.Frag} {cl : Nat → Addr} {F F' H H' : Hp}
theorem kCon.mono {a : Addr} {k : Kd} {vs : List V} (e : Ex F F') (h : kCon K F a k vs) : kCon K F' a k vs := by
  cases k with
  | lst => exact e.sl h
  | tup => exact e.st h
  | dic ks => exact ⟨e.rd h.1, h.2⟩
  | dit ks => exact h
  | ins c ns => exact h
theorem Node.mono {a : Addr} {o : Ow} {k : Kd} {vs : List V} {fp fps : List Addr} (h : Node K cl F H a o k vs fp fps) (e : Ex F F') (q : ∀ b, b ∈ fp → F' b = none ∧ H' b = H b) : Node K cl F' H' a o k vs fp fps := by
  cases o with
  | own =>
    obtain ⟨h1, ⟨u, h2, h3⟩, rfl⟩ := h
    obtain ⟨q1, q2⟩ := q a (by simp)
    exact ⟨q1, ⟨u, q2.trans h2, h3⟩, rfl⟩
  | shr =>
    obtain ⟨⟨u, h2, h3⟩, h4⟩ := h
    exact ⟨⟨u, e _ _ h2, h3⟩, h4⟩
  | con => exact ⟨h.1.mono e, h.2⟩
theorem Node.sub {a : Addr} {o : Ow} {k : Kd} {vs : List V} {fp fps : List Addr} (h : Node K cl F H a o k vs fp fps) : ∀ b, b ∈ fps → b ∈ fp := by
  cases o with
  | own => obtain ⟨_, _, rfl⟩ := h; intro b hb; simp [hb]
  | shr => obtain ⟨_, _, rfl⟩ := h; intro b hb; simp at hb
  | con => obtain ⟨_, _, rfl⟩ := h; intro b hb; simp at hb
mutual
theorem Rep.mono : (d : D) → ∀ {v fp}, Rep K cl F H d v fp → Ex F F' → (∀ b, b ∈ fp → F' b = none ∧ H' b = H b) → Rep K cl F' H' d v fp
  | .abs, _, _, r, _, _ => r
  | .non, _, _, r, _, _ => r
  | .bl _, _, _, r, _, _ => r
  | .int _, _, _, r, _, _ => r
  | .str _, _, _, r, _, _ => r
  | .pin a u, _, _, r, e, _ => ⟨e _ _ r.1, r.2⟩
  | .obj o k ds, _, _, r, e, q => by
    obtain ⟨a, vs, fps, hv, n, rs⟩ := r
    exact ⟨a, vs, fps, hv, n.mono e q, Reps.mono ds rs e fun b hb => q b (n.sub b hb)⟩
theorem Reps.mono : (ds : List D) → ∀ {vs fp}, Reps K cl F H ds vs fp → Ex F F' → (∀ b, b ∈ fp → F' b = none ∧ H' b = H b) → Reps K cl F' H' ds vs fp
  | [], _, _, r, _, _ => r
  | d :: ds, _, _, r, e, q => by
    obtain ⟨v, vr, f1, f2, hv, hf, r1, r2⟩ := r
    exact ⟨v, vr, f1, f2, hv, hf, Rep.mono d r1 e fun b hb => q b (by simp [hf, hb]), Reps.mono ds r2 e fun b hb => q b (by simp [hf, hb])⟩
end
mutual
theorem Rep.fp : (d : D) → ∀ {v fp}, Rep K cl F H d v fp → ∀ b, b ∈ fp → F b = none ∧ ∃ o, H b = some o
  | .abs, _, _, r, b, hb => by rw [show _ = [] from r] at hb; simp at hb
  | .non, _, _, r, b, hb => by obtain ⟨_, rfl⟩ := r; simp at hb
  | .bl _, _, _, r, b, hb => by obtain ⟨_, rfl⟩ := r; simp at hb
  | .int _, _, _, r, b, hb => by obtain ⟨_, rfl⟩ := r; simp at hb
  | .str _, _, _, r, b, hb => by obtain ⟨_, rfl⟩ := r; simp at hb
  | .pin _ _, _, _, r, b, hb => by obtain ⟨_, rfl⟩ := r; simp at hb
  | .obj o k ds, _, _, r, b, hb => by
    obtain ⟨a, vs, fps, hv, n, rs⟩ := r
    cases o with
    | own =>
      obtain ⟨h1, ⟨u, h2, h3⟩, rfl⟩ := n
      rcases List.mem_cons.mp hb with e | hb
      · subst e; exact ⟨h1, u, h2⟩
      · exact Reps.fp ds rs b hb
    | shr => obtain ⟨_, rfl, _⟩ := n; simp at hb
    | con => obtain ⟨_, rfl, _⟩ := n; simp at hb
theorem Reps.fp : (ds : List D) → ∀ {vs fp}, Reps K cl F H ds vs fp → ∀ b, b ∈ fp → F b = none ∧ ∃ o, H b = some o
  | [], _, _, r, b, hb => by obtain ⟨_, rfl⟩ := r; simp at hb
  | d :: ds, _, _, r, b, hb => by
    obtain ⟨v, vr, f1, f2, hv, rfl, r1, r2⟩ := r
    rcases List.mem_append.mp hb with hb | hb
    · exact Rep.fp d r1 b hb
    · exact Reps.fp ds r2 b hb
end
mutual
theorem Rep.frz : (d : D) → ∀ {v fp}, Rep K cl F H d v fp → Ex F F' → (∀ b, b ∈ fp → F' b = H b) → Rep K cl F' H' (frz d) v []
  | .abs, _, _, r, _, _ => rfl
  | .non, _, _, r, _, _ => ⟨r.1, rfl⟩
  | .bl _, _, _, r, _, _ => ⟨r.1, rfl⟩
  | .int _, _, _, r, _, _ => ⟨r.1, rfl⟩
  | .str _, _, _, r, _, _ => ⟨r.1, rfl⟩
  | .pin a u, _, _, r, e, _ => ⟨e _ _ r.1, rfl⟩
  | .obj .own k ds, _, _, r, e, q => by
    obtain ⟨a, vs, fps, hv, ⟨h1, ⟨u, h2, h3⟩, rfl⟩, rs⟩ := r
    unfold Rf.frz
    rw [if_pos rfl]
    exact ⟨a, vs, [], hv, ⟨⟨u, (q a (by simp)).trans h2, h3⟩, rfl, rfl⟩, Reps.frz ds rs e fun b hb => q b (by simp [hb])⟩
  | .obj .shr k ds, _, _, r, e, q => by
    obtain ⟨a, vs, fps, hv, ⟨h1, rfl, rfl⟩, rs⟩ := r
    unfold Rf.frz
    rw [if_neg (by decide)]
    exact Rep.mono (.obj .shr k ds) ⟨a, vs, [], hv, ⟨h1, rfl, rfl⟩, rs⟩ e fun b hb => by simp at hb
  | .obj .con k ds, _, _, r, e, q => by
    obtain ⟨a, vs, fps, hv, ⟨h1, rfl, rfl⟩, rs⟩ := r
    unfold Rf.frz
    rw [if_neg (by decide)]
    exact Rep.mono (.obj .con k ds) ⟨a, vs, [], hv, ⟨h1, rfl, rfl⟩, rs⟩ e fun b hb => by simp at hb
theorem Reps.frz : (ds : List D) → ∀ {vs fp}, Reps K cl F H ds vs fp → Ex F F' → (∀ b, b ∈ fp → F' b = H b) → Reps K cl F' H' (frzs ds) vs []
  | [], _, _, r, _, _ => ⟨r.1, rfl⟩
  | d :: ds, _, _, r, e, q => by
    obtain ⟨v, vr, f1, f2, hv, rfl, r1, r2⟩ := r
    exact ⟨v, vr, [], [], hv, rfl, Rep.frz d r1 e fun b hb => q b (by simp [hb]), Reps.frz ds r2 e fun b hb => q b (by simp [hb])⟩
end
theorem Reps.len : ∀ {ds : List D} {vs : List V} {fp : List Addr}, Reps K cl F H ds vs fp → vs.length = ds.length
  | [], _, _, r => by obtain ⟨rfl, _⟩ := r; rfl
  | _ :: ds, _, _, r => by
    obtain ⟨v, vr, f1, f2, rfl, _, _, r2⟩ := r
    simp [Reps.len r2]
theorem Reps.app : ∀ {ds es : List D} {vs ws : List V} {fp fq : List Addr}, Reps K cl F H ds vs fp → Reps K cl F H es ws fq → Reps K cl F H (ds ++ es) (vs ++ ws) (fp ++ fq)
  | [], _, _, _, _, _, r, s => by obtain ⟨rfl, rfl⟩ := r; exact s
  | _ :: ds, _, _, _, _, _, r, s => by
    obtain ⟨v, vr, f1, f2, rfl, rfl, r1, r2⟩ := r
    exact ⟨v, _, f1, _, rfl, List.append_assoc .., r1, r2.app s⟩
theorem Reps.one {d : D} {v : V} {fp : List Addr} (r : Rep K cl F H d v fp) : Reps K cl F H [d] [v] fp := ⟨v, [], fp, [], rfl, by simp, r, rfl, rfl⟩
theorem Reps.cons {d : D} {v : V} {ds : List D} {vs : List V} {f1 f2 : List Addr} (r : Rep K cl F H d v f1) (rs : Reps K cl F H ds vs f2) : Reps K cl F H (d :: ds) (v :: vs) (f1 ++ f2) := ⟨v, vs, f1, f2, rfl, rfl, r, rs⟩
theorem Reps.split : ∀ {ds es : List D} {vs : List V} {fp : List Addr}, Reps K cl F H (ds ++ es) vs fp → ∃ v1 v2 f1 f2, vs = v1 ++ v2 ∧ fp = f1 ++ f2 ∧ Reps K cl F H ds v1 f1 ∧ Reps K cl F H es v2 f2
  | [], _, vs, fp, r => ⟨[], vs, [], fp, rfl, rfl, ⟨rfl, rfl⟩, r⟩
  | d :: ds, es, _, _, r => by
    obtain ⟨v, vr, f1, f2, rfl, rfl, r1, r2⟩ := r
    obtain ⟨v1, v2, g1, g2, rfl, rfl, a, b⟩ := Reps.split (ds := ds) r2
    exact ⟨v :: v1, v2, f1 ++ g1, g2, rfl, by simp, .cons r1 a, b⟩
/-- a place in a row of roots: what stands there, and what comes of putting another thing there -/
theorem Reps.at : ∀ {ds : List D} {vs : List V} {fp : List Addr}, Reps K cl F H ds vs fp → ∀ {i : Nat} {d : D}, ds[i]? = some d → ∃ v f1 f f2, vs[i]? = some v ∧ Rep K cl F H d v f ∧ fp = f1 ++ f ++ f2 ∧
    ∀ {F' H' : Hp} {v' : V} {d' : D} {f' : List Addr}, Ex F F' → (∀ b, b ∈ f1 ++ f2 → F' b = none ∧ H' b = H b) → Rep K cl F' H' d' v' f' → Reps K cl F' H' (ds.set i d') (vs.set i v') (f1 ++ f' ++ f2)
  | d :: ds, _, _, r, 0, _, h => by
    obtain ⟨v, vr, g1, g2, rfl, rfl, r1, r2⟩ := r
    simp at h; subst h
    refine ⟨v, [], g1, g2, by simp, r1, by simp, fun {F' H' v' d' f'} e k r' => ?_⟩
    exact ⟨v', vr, f', g2, rfl, by simp, r', Reps.mono ds r2 e fun b hb => k b (by simp [hb])⟩
  | d :: ds, _, _, r, i + 1, _, h => by
    obtain ⟨v, vr, g1, g2, rfl, rfl, r1, r2⟩ := r
    obtain ⟨w, f1, f, f2, hv, hr, e, k⟩ := Reps.at r2 (i := i) (by simpa using h)
    refine ⟨w, g1 ++ f1, f, f2, by simpa using hv, hr, by rw [e]; simp [List.append_assoc], fun {F' H' v' d' f'} ex kk r' => ?_⟩
    have q := k ex (fun b hb => kk b (by simp at hb ⊢; rcases hb with h | h <;> simp [h])) r'
    exact ⟨v, _, g1, _, rfl, by simp [List.append_assoc], Rep.mono d r1 ex fun b hb => kk b (by simp [hb]), q⟩
theorem Reps.get {ds : List D} {vs : List V} {fp : List Addr} (r : Reps K cl F H ds vs fp) {i : Nat} {d : D} (h : ds[i]? = some d) : ∃ v f, vs[i]? = some v ∧ Rep K cl F H d v f ∧ ∀ b, b ∈ f → b ∈ fp := by
  obtain ⟨v, f1, f, f2, hv, hr, e, _⟩ := r.at h
  exact ⟨v, f, hv, hr, fun b hb => by rw [e]; simp [hb]⟩
end
end Rf
namespace Rf
open PySem L2
/-! roots: a family of trees with their values, apart from one another -/
section
variable (K : PySem.W.Frag) (cl : Nat → Addr) (F H : Hp) {ι : Type}
structure WF (rd : ι → D) (rv : ι → V) : Prop where
  ex : Ex F H
  fp : ∃ fp : ι → List Addr, (∀ r, Rep K cl F H (rd r) (rv r) (fp r)) ∧ (∀ r, (fp r).Nodup) ∧ ∀ r r' b, b ∈ fp r → b ∈ fp r' → r = r'
end
open Classical in
noncomputable def fset {ι α : Type} (f : ι → α) (i : ι) (a : α) : ι → α := fun r => if r = i then a else f r
theorem fset_same {ι α : Type} {f : ι → α} {i : ι} {a : α} : fset f i a i = a := if_pos rfl
theorem fset_ne {ι α : Type} {f : ι → α} {i r : ι} {a : α} (h : r ≠ i) : fset f i a r = f r := if_neg h
def psh {φ α : Type} (a : α) (f : φ → α) : Option φ → α
  | none => a
  | some r => f r
def pshs {φ α : Type} (z : α) (xs : List α) (f : φ → α) : Nat ⊕ φ → α
  | .inl i => xs[i]?.getD z
  | .inr r => f r
section
variable {K : PySem.W.Frag} {cl : Nat → Addr} {F H : Hp} {ι κ : Type} {rd : ι → D} {rv : ι → V}
theorem WF.map (w : WF K cl F H rd rv) (f : κ → Option ι) (inj : ∀ a b r, f a = some r → f b = some r → a = b) {rd' : κ → D} {rv' : κ → V}
    (hd : ∀ a r, f a = some r → rd' a = rd r ∧ rv' a = rv r) (hn : ∀ a, f a = none → rd' a = .abs) : WF K cl F H rd' rv' := by
  obtain ⟨fp, h1, h2, h3⟩ := w.fp
  refine ⟨w.ex, fun a => psh [] fp (f a), fun a => ?_, fun a => ?_, fun a b x ha hb => ?_⟩
  · show Rep K cl F H (rd' a) (rv' a) (psh [] fp (f a))
    cases e : f a with
    | none => rw [hn a e]; exact rfl
    | some r => obtain ⟨q1, q2⟩ := hd a r e; rw [q1, q2]; exact h1 r
  · show (psh [] fp (f a)).Nodup
    cases e : f a with
    | none => exact List.nodup_nil
    | some r => exact h2 r
  · have ha : x ∈ psh [] fp (f a) := ha
    have hb : x ∈ psh [] fp (f b) := hb
    cases ea : f a with
    | none => rw [ea] at ha; simp [psh] at ha
    | some r =>
      cases eb : f b with
      | none => rw [eb] at hb; simp [psh] at hb
      | some r' =>
        rw [ea] at ha; rw [eb] at hb
        have := h3 r r' x ha hb
        subst this
        exact inj a b r ea eb
theorem WF.pop {d : D} {v : V} (w : WF K cl F H (psh d rd) (psh v rv)) : WF K cl F H rd rv :=
  w.map (fun r => some (some r)) (fun a b r h1 h2 => by simpa using (Option.some.inj h1).trans (Option.some.inj h2).symm) (fun a r h => by cases h; exact ⟨rfl, rfl⟩) (fun a h => by cases h)
open Classical in
noncomputable def skip {ι : Type} (i r : ι) : Option ι := if r = i then none else some r
theorem skip_same {ι : Type} {i : ι} : skip i i = none := if_pos rfl
theorem skip_ne {ι : Type} {i r : ι} (h : r ≠ i) : skip i r = some r := if_neg h
theorem skip_some {ι : Type} {i r s : ι} (h : skip i r = some s) : r ≠ i ∧ r = s := by
  by_cases e : r = i
  · rw [e, skip_same] at h; cases h
  · rw [skip_ne e] at h; exact ⟨e, Option.some.inj h⟩
theorem skip_no {ι : Type} {i r : ι} (h : skip i r = none) : r = i := by
  by_cases e : r = i
  · exact e
  · rw [skip_ne e] at h; cases h
theorem WF.move (w : WF K cl F H rd rv) (i : ι) : WF K cl F H (psh (rd i) (fset rd i .abs)) (psh (rv i) rv) := by
  refine w.map (psh (some i) (skip i)) (fun a b r h1 h2 => ?_) (fun a r h => ?_) (fun a h => ?_)
  · cases a with
    | none =>
      have h1 : some i = some r := h1
      cases h1
      cases b with
      | none => rfl
      | some b => exact absurd (skip_some h2).2 (skip_some h2).1
    | some a =>
      obtain ⟨p1, p2⟩ := skip_some h1
      cases b with
      | none =>
        have h2 : some i = some r := h2
        cases h2
        exact absurd p2 p1
      | some b => rw [p2, (skip_some h2).2]
  · cases a with
    | none =>
      have h : some i = some r := h
      cases h
      exact ⟨rfl, rfl⟩
    | some a =>
      obtain ⟨p1, p2⟩ := skip_some h
      subst p2
      exact ⟨fset_ne p1, rfl⟩
  · cases a with
    | none => cases h
    | some a =>
      have e := skip_no h
      subst e
      exact fset_same
theorem WF.store {d : D} {v : V} (w : WF K cl F H (psh d rd) (psh v rv)) (i : ι) : WF K cl F H (fset rd i d) (fset rv i v) := by
  refine w.map (fun r => open Classical in if r = i then some none else some (some r)) (fun a b r h1 h2 => ?_) (fun a r h => ?_) (fun a h => ?_)
  · split at h1 <;> split at h2
    · rename_i p q; rw [p, q]
    · cases (Option.some.inj h1).trans (Option.some.inj h2).symm
    · cases (Option.some.inj h1).trans (Option.some.inj h2).symm
    · simpa using (Option.some.inj h1).trans (Option.some.inj h2).symm
  · split at h
    · rename_i p; subst p; cases h; exact ⟨fset_same, fset_same⟩
    · rename_i p; cases h; exact ⟨fset_ne p, fset_ne p⟩
  · split at h <;> cases h
/-- another heap: what is owned here stays -/
theorem WF.grow {H' : Hp} (w : WF K cl F H rd rv) (e : Ex H H') : WF K cl F H' rd rv := by
  obtain ⟨fp, h1, h2, h3⟩ := w.fp
  refine ⟨w.ex.trans e, fp, fun r => Rep.mono _ (h1 r) (Ex.refl F) fun b hb => ?_, h2, h3⟩
  obtain ⟨q1, o, q2⟩ := Rep.fp _ (h1 r) b hb
  exact ⟨q1, (e b o q2).trans q2.symm⟩
theorem ex_new {p : Addr} {u : HO} (hp : H p = none) : Ex H (upd H p u) := fun a o h => by
  rw [upd_ne (ne_of_none h hp)]
  exact h
/-- a scalar on top -/
def Scal : D → V → Prop
  | .non, v => v = .non
  | .bl b, v => v = .bl b
  | .int i, v => v = .int i
  | .str s, v => v = .str s
  | .obj _ _ _, _ => False
  | .abs, _ => False
  | .pin _ _, _ => False
theorem Scal.rep {d : D} {v : V} (h : Scal d v) : Rep K cl F H d v [] := by
  cases d with
  | obj o k ds => exact h.elim
  | abs => exact h.elim
  | pin a u => exact h.elim
  | _ => exact ⟨h, rfl⟩
theorem WF.dup0 {d : D} {v : V} (w : WF K cl F H rd rv) (h : Rep K cl F H d v []) : WF K cl F H (psh d rd) (psh v rv) := by
  obtain ⟨fp, h1, h2, h3⟩ := w.fp
  refine ⟨w.ex, psh [] fp, fun r => ?_, fun r => ?_, fun r r' b hb hb' => ?_⟩
  · cases r with
    | none => exact h
    | some r => exact h1 r
  · cases r with
    | none => exact List.nodup_nil
    | some r => exact h2 r
  · cases r with
    | none => simp [psh] at hb
    | some r =>
      cases r' with
      | none => simp [psh] at hb'
      | some r' => rw [h3 r r' b hb hb']
open Classical in
/-- a root is read: it is nobody's from then on -/
theorem WF.frzAt (w : WF K cl F H rd rv) (i : ι) : ∃ F', WF K cl F' H (fset rd i (frz (rd i))) rv ∧ Rep K cl F' H (frz (rd i)) (rv i) [] ∧ Ex F F' := by
  obtain ⟨fp, h1, h2, h3⟩ := w.fp
  have hF : ∀ b o, F b = some o → b ∉ fp i := fun b o h hb => by rw [(Rep.fp _ (h1 i) b hb).1] at h; cases h
  have e1 : Ex F (fun b => if b ∈ fp i then H b else F b) := fun b o h => by
    show (if b ∈ fp i then H b else F b) = some o
    rw [if_neg (hF b o h)]; exact h
  have r0 : Rep K cl (fun b => if b ∈ fp i then H b else F b) H (frz (rd i)) (rv i) [] := Rep.frz _ (h1 i) e1 fun b hb => if_pos hb
  refine ⟨fun b => if b ∈ fp i then H b else F b, ⟨fun b o h => ?_, fset fp i [], fun r => ?_, fun r => ?_, fun r r' b hb hb' => ?_⟩, r0, e1⟩
  · split at h
    · exact h
    · exact w.ex b o h
  · by_cases q : r = i
    · subst q; rw [fset_same, fset_same]; exact r0
    · rw [fset_ne q, fset_ne q]
      refine Rep.mono _ (h1 r) e1 fun b hb => ⟨?_, rfl⟩
      show (if b ∈ fp i then H b else F b) = none
      rw [if_neg fun z => q (h3 r i b hb z)]
      exact (Rep.fp _ (h1 r) b hb).1
  · by_cases q : r = i
    · subst q; rw [fset_same]; exact List.nodup_nil
    · rw [fset_ne q]; exact h2 r
  · by_cases q : r = i
    · subst q; rw [fset_same] at hb; simp at hb
    · by_cases q' : r' = i
      · subst q'; rw [fset_same] at hb'; simp at hb'
      · rw [fset_ne q] at hb; rw [fset_ne q'] at hb'; exact h3 r r' b hb hb'
theorem WF.read (w : WF K cl F H rd rv) (i : ι) : ∃ F', WF K cl F' H (psh (frz (rd i)) (fset rd i (frz (rd i)))) (psh (rv i) rv) := by
  obtain ⟨F', w', r, _⟩ := w.frzAt i
  exact ⟨F', w'.dup0 r⟩
theorem WF.frzTop {d : D} {v : V} (w : WF K cl F H (psh d rd) (psh v rv)) : ∃ F', WF K cl F' H (psh (frz d) rd) (psh v rv) ∧ Rep K cl F' H (frz d) v [] ∧ Ex F F' := by
  obtain ⟨F', w', r, e1⟩ := w.frzAt none
  refine ⟨F', w'.map (fun r => some r) (fun a b r h1 h2 => by simpa using (Option.some.inj h1).trans (Option.some.inj h2).symm) (fun a r h => ?_) (fun a h => by cases h), r, e1⟩
  cases h
  cases a with
  | none => exact ⟨fset_same.symm, rfl⟩
  | some a => exact ⟨(fset_ne (by simp)).symm, rfl⟩
/-! a new container out of temporaries -/
theorem reps_of {fp : Nat → List Addr} : ∀ {ds : List D} {vs : List V} (n : Nat), vs.length = ds.length → (∀ i, Rep K cl F H (ds[i]?.getD .abs) (vs[i]?.getD .non) (fp (n + i))) → Reps K cl F H ds vs ((List.range' n ds.length).flatMap fp)
  | [], vs, n, hl, _ => ⟨by simpa using hl, rfl⟩
  | d :: ds, [], n, hl, _ => by simp at hl
  | d :: ds, v :: vs, n, hl, h => by
    rw [List.length_cons, List.range'_succ, List.flatMap_cons]
    exact .cons (by simpa using h 0) (reps_of (n + 1) (by simpa using hl) fun i => by
      have q := h (i + 1)
      rw [show n + (i + 1) = n + 1 + i by omega] at q
      simpa using q)
theorem nodup_flat {fp : Nat → List Addr} (h2 : ∀ r, (fp r).Nodup) (h3 : ∀ r r' b, b ∈ fp r → b ∈ fp r' → r = r') : ∀ (k n : Nat), ((List.range' n k).flatMap fp).Nodup
  | 0, n => by simp
  | k + 1, n => by
    rw [List.range'_succ, List.flatMap_cons, List.nodup_append]
    refine ⟨h2 n, nodup_flat h2 h3 k (n + 1), fun a ha b hb => ?_⟩
    rintro rfl
    obtain ⟨j, hj, hb⟩ := List.mem_flatMap.mp hb
    have := h3 n j a ha hb
    have := List.mem_range'_1.mp hj
    omega
theorem WF.node {φ : Type} {fd : φ → D} {fv : φ → V} {ds : List D} {vs : List V} {k : Kd} {u : HO} {p : Addr} (w : WF K cl F H (pshs .abs ds fd) (pshs .non vs fv)) (hl : vs.length = ds.length) (hp : H p = none) (hu : kHO cl k vs u) :
    WF K cl F (upd H p u) (psh (.obj .own k ds) fd) (psh (.ref p) fv) := by
  obtain ⟨fp, h1, h2, h3⟩ := w.fp
  have np : ∀ r, p ∉ fp r := fun r hr => by
    obtain ⟨_, o, q⟩ := Rep.fp _ (h1 r) p hr
    rw [hp] at q; cases q
  have m1 : ∀ r, Rep K cl F (upd H p u) (pshs .abs ds fd r) (pshs .non vs fv r) (fp r) := fun r => Rep.mono _ (h1 r) (Ex.refl F) fun b hb =>
    ⟨(Rep.fp _ (h1 r) b hb).1, upd_ne fun e => np r (e ▸ hb)⟩
  have rs : Reps K cl F (upd H p u) ds vs ((List.range' 0 ds.length).flatMap fun i => fp (.inl i)) := reps_of 0 hl fun i => by
    have q := m1 (.inl i)
    rw [Nat.zero_add]
    exact q
  refine ⟨w.ex.trans (ex_new hp), fun r => match r with | none => p :: (List.range' 0 ds.length).flatMap (fun i => fp (.inl i)) | some r => fp (.inr r), fun r => ?_, fun r => ?_, fun r r' b hb hb' => ?_⟩
  · cases r with
    | none => exact ⟨p, vs, _, rfl, ⟨w.ex.no hp, ⟨u, upd_same, hu⟩, rfl⟩, rs⟩
    | some r => exact m1 (.inr r)
  · cases r with
    | none =>
      refine List.nodup_cons.mpr ⟨fun h => ?_, nodup_flat (fun r => h2 _) (fun r r' b hb hb' => by simpa using h3 (.inl r) (.inl r') b hb hb') _ _⟩
      obtain ⟨j, _, hj⟩ := List.mem_flatMap.mp h
      exact np _ hj
    | some r => exact h2 _
  · have top : ∀ r b, b ∈ p :: (List.range' 0 ds.length).flatMap (fun i => fp (.inl i)) → b ∈ fp (.inr r) → False := fun r b hb hb' => by
      rcases List.mem_cons.mp hb with e | hb
      · rw [e] at hb'; exact np _ hb'
      · obtain ⟨j, _, hj⟩ := List.mem_flatMap.mp hb
        cases h3 _ _ b hj hb'
    cases r with
    | none =>
      cases r' with
      | none => rfl
      | some r' => exact (top r' b hb hb').elim
    | some r =>
      cases r' with
      | none => exact (top r b hb' hb).elim
      | some r' => have := h3 _ _ b hb hb'; simpa using this
end
end Rf
namespace Rf
open PySem L2
/-! places within a tree -/
inductive Sp1 where
  | ix (j : Nat) | fld (f : Str) | key (k : Key)
/-- the child's number -/
def kix (n : Nat) : Kd → Sp1 → Option Nat
  | .lst, .ix j => if j < n then some j else none
  | .tup, .ix j => if j < n then some j else none
  | .ins _ ns, .fld f => ns.findIdx? (fun x => decide (x = f))
  | .dic ks, .key k => ks.findIdx? (fun x => decide (x = k))
  | _, _ => none
def dget : D → List Sp1 → Option D
  | d, [] => some d
  | .obj _ k ds, s :: p => match kix ds.length k s with
    | some j => match ds[j]? with
      | some x => dget x p
      | none => none
    | none => none
  | _, _ :: _ => none
def dput : D → List Sp1 → D → D
  | _, [], x => x
  | .obj o k ds, s :: p, x => match kix ds.length k s with
    | some j => .obj o k (ds.set j (dput (ds[j]?.getD .abs) p x))
    | none => .obj o k ds
  | d, _ :: _, _ => d
/-- all that stand around the place may be changed -/
def down : D → List Sp1 → Bool
  | _, [] => true
  | .obj o k ds, s :: p => decide (o = .own) && match kix ds.length k s with
    | some j => down (ds[j]?.getD .abs) p
    | none => false
  | _, _ :: _ => false
section
variable {K : PySem.W.Frag} {cl : Nat → Addr} {F H : Hp}
theorem nodup_mid {a b c : List Addr} (h : (a ++ b ++ c).Nodup) : b.Nodup ∧ (∀ x, x ∈ b → x ∉ a ∧ x ∉ c) ∧ (a ++ c).Nodup := by
  simp only [List.nodup_append, List.append_assoc, List.mem_append] at h ⊢
  obtain ⟨h1, ⟨h2, h3, h4⟩, h5⟩ := h
  exact ⟨h2, fun x hx => ⟨fun ha => h5 x ha x (.inl hx) rfl, fun hc => h4 x hx x hc rfl⟩, h1, h3, fun x hx y hy => h5 x hx y (.inr hy)⟩
theorem nodup_mk {a b c : List Addr} (h1 : b.Nodup) (h2 : ∀ x, x ∈ b → x ∉ a ∧ x ∉ c) (h3 : (a ++ c).Nodup) : (a ++ b ++ c).Nodup := by
  simp only [List.nodup_append, List.append_assoc, List.mem_append] at h3 ⊢
  obtain ⟨q1, q2, q3⟩ := h3
  refine ⟨q1, ⟨h1, q2, fun x hx y hy e => (h2 x hx).2 (e ▸ hy)⟩, fun x hx y hy e => ?_⟩
  rcases hy with hy | hy
  · exact (h2 y hy).1 (e ▸ hx)
  · exact q3 x hx y hy e
/-- as it is read -/
def kRd (K : PySem.W.Frag) (cl : Nat → Addr) (H : Hp) (a : Addr) : Kd → List V → Prop
  | .lst, vs => SqL K H a vs
  | .tup, vs => SqT K H a vs
  | .dic ks, vs => Rd H a (.dK (ks.zip vs)) ∧ ks.length = vs.length
  | .dit ks, vs => Rd H a (.dT (ks.zip vs)) ∧ ks.length = vs.length
  | .ins c ns, vs => ∃ dx, H a = some (.ins (cl c) dx (ns.zip vs)) ∧ ns.length = vs.length
theorem kHO.rd {a : Addr} {k : Kd} {vs : List V} {u : HO} (h : kHO cl k vs u) (e : H a = some u) : kRd K cl H a k vs := by
  cases k with
  | lst => have h : u = _ := h; subst h; exact SqL.of e
  | tup => have h : u = _ := h; subst h; exact SqT.of e
  | dic ks => obtain ⟨rfl, l⟩ := h; exact ⟨.inl e, l⟩
  | dit ks => obtain ⟨rfl, l⟩ := h; exact ⟨.inl e, l⟩
  | ins c ns => obtain ⟨dx, rfl, l⟩ := h; exact ⟨dx, e, l⟩
theorem Node.rd {a : Addr} {o : Ow} {k : Kd} {vs : List V} {fp fps : List Addr} (n : Node K cl F H a o k vs fp fps) (e : Ex F H) : kRd K cl H a k vs := by
  cases o with
  | own => obtain ⟨_, ⟨u, h2, h3⟩, _⟩ := n; exact h3.rd h2
  | shr => obtain ⟨⟨u, h2, h3⟩, _⟩ := n; exact h3.rd (e _ _ h2)
  | con =>
    obtain ⟨h, _⟩ := n
    cases k with
    | lst => exact e.sl h
    | tup => exact e.st h
    | dic ks => exact ⟨e.rd h.1, h.2⟩
    | dit ks => exact h.elim
    | ins c ns => exact h.elim
/-- the value at a place -/
def VAt (K : PySem.W.Frag) (cl : Nat → Addr) (H : Hp) : List Sp1 → D → V → V → Prop
  | [], _, v, w => w = v
  | s :: p, d, v, w => ∃ o k ds a vs j y v1, d = .obj o k ds ∧ v = .ref a ∧ kRd K cl H a k vs ∧ kix ds.length k s = some j ∧ ds[j]? = some y ∧ vs[j]? = some v1 ∧ vs.length = ds.length ∧ VAt K cl H p y v1 w
/-- a place within a tree: what stands there, and what comes of putting another thing there -/
theorem Rep.at (exF : Ex F H) : ∀ (p : List Sp1) {d x : D} {v : V} {fp : List Addr}, Rep K cl F H d v fp → fp.Nodup → dget d p = some x → ∃ w fx, VAt K cl H p d v w ∧ Rep K cl F H x w fx ∧ fx.Nodup ∧ (∀ b, b ∈ fx → b ∈ fp) ∧
    ∀ {F' H' : Hp} {x' : D} {fx' : List Addr}, Ex F F' → (∀ b, b ∈ fp → b ∉ fx → F' b = none ∧ H' b = H b) → Rep K cl F' H' x' w fx' → fx'.Nodup → (∀ b, b ∈ fx' → b ∈ fx ∨ b ∉ fp) → (down d p = true ∨ fx' = []) →
      ∃ fp', Rep K cl F' H' (dput d p x') v fp' ∧ fp'.Nodup ∧ ∀ b, b ∈ fp' → b ∈ fx' ∨ (b ∈ fp ∧ b ∉ fx)
  | [], d, x, v, fp, r, nd, h => by
    have e : d = x := by simpa [dget] using h
    subst e
    refine ⟨v, fp, rfl, r, nd, fun _ h => h, fun {F' H' x' fx'} _ _ r' nd' _ _ => ⟨fx', ?_, nd', fun b hb => .inl hb⟩⟩
    have q : dput d [] x' = x' := by unfold dput; rfl
    rw [q]; exact r'
  | s :: p, .obj o k ds, x, v, fp, r, nd, h => by
    obtain ⟨a, vs, fps, rfl, n, rs⟩ := r
    unfold dget at h
    cases ej : kix ds.length k s with
    | none => rw [ej] at h; cases h
    | some j =>
      rw [ej] at h
      cases ex : ds[j]? with
      | none => simp only [ex] at h; cases h
      | some y =>
        simp only [ex] at h
        obtain ⟨w1, f1, f, f2, hw1, ry, efp, back⟩ := Reps.at rs ex
        have ndf : fps.Nodup := by
          cases o with
          | own => obtain ⟨_, _, rfl⟩ := n; exact (List.nodup_cons.mp nd).2
          | shr => obtain ⟨_, _, rfl⟩ := n; exact List.nodup_nil
          | con => obtain ⟨_, _, rfl⟩ := n; exact List.nodup_nil
        have sub := n.sub
        subst efp
        obtain ⟨nf, disj, nd12⟩ := nodup_mid ndf
        obtain ⟨w, fx, va, rx, nx, sx, put⟩ := Rep.at exF p ry nf h
        refine ⟨w, fx, ⟨o, k, ds, a, vs, j, y, w1, rfl, rfl, n.rd exF, ej, ex, hw1, rs.len, va⟩, rx, nx, fun b hb => sub b (by simp [sx b hb]), fun {F' H' x' fx'} ef keep r' nd' hn hown => ?_⟩
        have hsub : ∀ b, b ∈ f → b ∈ fp := fun b hb => sub b (by simp [hb])
        have ho : down y p = true ∨ fx' = [] := by
          rcases hown with q | q
          · unfold down at q
            rw [ej] at q
            simp only [ex, Option.getD_some, Bool.and_eq_true] at q
            exact .inl q.2
          · exact .inr q
        obtain ⟨fp', rp, ndp, mem⟩ := put ef (fun b hb hx => keep b (hsub b hb) hx) r' nd' (fun b hb => (hn b hb).imp id fun z hb' => z (hsub b hb')) ho
        have rs' := back ef (fun b hb => keep b (sub b (by simp at hb ⊢; rcases hb with h | h <;> simp [h])) (fun hb' => by
          have := disj b (sx b hb')
          simp at hb; rcases hb with h | h
          · exact this.1 h
          · exact this.2 h)) rp
        have eput : dput (.obj o k ds) (s :: p) x' = .obj o k (ds.set j (dput y p x')) := by
          conv => lhs; unfold dput
          rw [ej]
          simp only [ex, Option.getD_some]
        rw [eput]
        have evs : vs.set j w1 = vs := by
          apply List.ext_getElem?
          intro i
          rw [List.getElem?_set]
          split
          · rename_i e; subst e
            split
            · exact hw1.symm
            · rename_i h'; rw [List.getElem?_eq_none (by omega)]
          · rfl
        rw [evs] at rs'
        have ndall : (f1 ++ fp' ++ f2).Nodup := nodup_mk ndp (fun b hb => by
          rcases mem b hb with q | ⟨q, q'⟩
          · rcases hn b q with z | z
            · exact disj b (sx b z)
            · exact ⟨fun ha => z (sub b (by simp [ha])), fun ha => z (sub b (by simp [ha]))⟩
          · exact disj b q) nd12
        have memall : ∀ b, b ∈ f1 ++ fp' ++ f2 → b ∈ fx' ∨ (b ∈ f1 ++ f ++ f2 ∧ b ∉ fx) := fun b hb => by
          simp only [List.mem_append] at hb
          rcases hb with (q | q) | q
          · exact .inr ⟨by simp [q], fun z => (disj b (sx b z)).1 q⟩
          · rcases mem b q with z | ⟨z, z'⟩
            · exact .inl z
            · exact .inr ⟨by simp [z], z'⟩
          · exact .inr ⟨by simp [q], fun z => (disj b (sx b z)).2 q⟩
        cases o with
        | own =>
          obtain ⟨n1, ⟨u, n2, n3⟩, rfl⟩ := n
          have anf : a ∉ f1 ++ f ++ f2 := (List.nodup_cons.mp nd).1
          have anx : a ∉ fx := fun z => anf (by simp [sx a z])
          obtain ⟨k1, k2⟩ := keep a (by simp) anx
          have an' : a ∉ f1 ++ fp' ++ f2 := fun z => by
            rcases memall a z with q | q
            · rcases hn a q with z' | z'
              · exact anx z'
              · exact z' (by simp)
            · exact anf q.1
          refine ⟨a :: (f1 ++ fp' ++ f2), ⟨a, vs, _, rfl, ⟨k1, ⟨u, k2.trans n2, n3⟩, rfl⟩, rs'⟩, List.nodup_cons.mpr ⟨an', ndall⟩, fun b hb => ?_⟩
          rcases List.mem_cons.mp hb with e | hb
          · subst e; exact .inr ⟨by simp, anx⟩
          · exact (memall b hb).imp id fun q => ⟨by simp only [List.mem_cons]; exact .inr q.1, q.2⟩
        | shr =>
          obtain ⟨n1, rfl, e⟩ := n
          have e12 : f1 = [] ∧ f = [] ∧ f2 = [] := by simpa [List.append_eq_nil_iff, and_assoc] using e
          have efx : fx' = [] := by
            rcases hown with q | q
            · unfold down at q; rw [ej] at q; simp at q
            · exact q
          have efp' : fp' = [] := List.eq_nil_iff_forall_not_mem.mpr fun b hb => by
            rcases mem b hb with q | ⟨q, _⟩
            · rw [efx] at q; simp at q
            · rw [e12.2.1] at q; simp at q
          obtain ⟨u, n2, n3⟩ := n1
          refine ⟨[], ⟨a, vs, _, rfl, ⟨⟨u, ef _ _ n2, n3⟩, rfl, by rw [e12.1, efp', e12.2.2]; rfl⟩, rs'⟩, List.nodup_nil, fun b hb => by simp at hb⟩
        | con =>
          obtain ⟨n1, rfl, e⟩ := n
          have e12 : f1 = [] ∧ f = [] ∧ f2 = [] := by simpa [List.append_eq_nil_iff, and_assoc] using e
          have efx : fx' = [] := by
            rcases hown with q | q
            · unfold down at q; rw [ej] at q; simp at q
            · exact q
          have efp' : fp' = [] := List.eq_nil_iff_forall_not_mem.mpr fun b hb => by
            rcases mem b hb with q | ⟨q, _⟩
            · rw [efx] at q; simp at q
            · rw [e12.2.1] at q; simp at q
          refine ⟨[], ⟨a, vs, _, rfl, ⟨n1.mono ef, rfl, by rw [e12.1, efp', e12.2.2]; rfl⟩, rs'⟩, List.nodup_nil, fun b hb => by simp at hb⟩
  | _ :: _, .abs, _, _, _, _, _, h => by simp [dget] at h
  | _ :: _, .non, _, _, _, _, _, h => by simp [dget] at h
  | _ :: _, .bl _, _, _, _, _, _, h => by simp [dget] at h
  | _ :: _, .int _, _, _, _, _, _, h => by simp [dget] at h
  | _ :: _, .str _, _, _, _, _, _, h => by simp [dget] at h
def isSh : D → Bool
  | .obj .own _ _ => false
  | _ => true
theorem Rep.sh {d : D} {v : V} {fp : List Addr} (r : Rep K cl F H d v fp) (h : isSh d = true) : fp = [] := by
  cases d with
  | obj o k ds =>
    obtain ⟨a, vs, fps, _, n, _⟩ := r
    cases o with
    | own => cases h
    | shr => exact n.2.1
    | con => exact n.2.1
  | abs => exact r
  | _ => exact r.2
variable {ι : Type} {rd : ι → D} {rv : ι → V}
theorem WF.peek (w : WF K cl F H rd rv) (i : ι) {p : List Sp1} {x : D} (hg : dget (rd i) p = some x) : ∃ z fx, VAt K cl H p (rd i) (rv i) z ∧ Rep K cl F H x z fx := by
  obtain ⟨fp, h1, h2, h3⟩ := w.fp
  obtain ⟨z, fx, va, rx, _⟩ := Rep.at w.ex p (h1 i) (h2 i) hg
  exact ⟨z, fx, va, rx⟩
/-- a shared thing at a place is read -/
theorem WF.copyAt (w : WF K cl F H rd rv) (i : ι) {p : List Sp1} {x : D} (hg : dget (rd i) p = some x) (hs : isSh x = true) : ∃ z, VAt K cl H p (rd i) (rv i) z ∧ WF K cl F H (psh x rd) (psh z rv) := by
  obtain ⟨z, fx, va, rx⟩ := w.peek i hg
  have e := rx.sh hs
  subst e
  exact ⟨z, va, w.dup0 rx⟩
open Classical in
/-- an owned thing at a place is read: it is frozen there -/
theorem WF.readAt (w : WF K cl F H rd rv) (i : ι) {p : List Sp1} {x : D} (hg : dget (rd i) p = some x) :
    ∃ z F', VAt K cl H p (rd i) (rv i) z ∧ WF K cl F' H (psh (frz x) (fset rd i (dput (rd i) p (frz x)))) (psh z rv) := by
  obtain ⟨fp, h1, h2, h3⟩ := w.fp
  obtain ⟨z, fx, va, rx, nx, sx, put⟩ := Rep.at w.ex p (h1 i) (h2 i) hg
  have e1 : Ex F (fun b => if b ∈ fx then H b else F b) := fun b o h => by
    have hb : b ∉ fx := fun hb => by rw [(Rep.fp _ rx b hb).1] at h; cases h
    show (if b ∈ fx then H b else F b) = some o
    rw [if_neg hb]; exact h
  have r0 : Rep K cl (fun b => if b ∈ fx then H b else F b) H (frz x) z [] := Rep.frz _ rx e1 fun b hb => if_pos hb
  obtain ⟨fp', rp, ndp, mem⟩ := put e1 (fun b hb hx => ⟨by show (if b ∈ fx then H b else F b) = none; rw [if_neg hx]; exact (Rep.fp _ (h1 i) b hb).1, rfl⟩) r0 List.nodup_nil (fun b hb => by simp at hb) (.inr rfl)
  have mem' : ∀ b, b ∈ fp' → b ∈ fp i := fun b hb => by
    rcases mem b hb with q | q
    · simp at q
    · exact q.1
  refine ⟨z, fun b => if b ∈ fx then H b else F b, va, WF.dup0 ⟨fun b o h => ?_, fset fp i fp', fun r => ?_, fun r => ?_, fun r r' b hb hb' => ?_⟩ r0⟩
  · have h : (if b ∈ fx then H b else F b) = some o := h
    split at h
    · exact h
    · exact w.ex b o h
  · by_cases q : r = i
    · subst q; rw [fset_same, fset_same]; exact rp
    · rw [fset_ne q, fset_ne q]
      refine Rep.mono _ (h1 r) e1 fun b hb => ⟨?_, rfl⟩
      show (if b ∈ fx then H b else F b) = none
      rw [if_neg fun z => q (h3 r i b hb (sx b z))]
      exact (Rep.fp _ (h1 r) b hb).1
  · by_cases q : r = i
    · subst q; rw [fset_same]; exact ndp
    · rw [fset_ne q]; exact h2 r
  · have m : ∀ r, b ∈ fset fp i fp' r → b ∈ fp r := fun r h => by
      by_cases q : r = i
      · subst q; rw [fset_same] at h; exact mem' b h
      · rw [fset_ne q] at h; exact h
    exact h3 r r' b (m r hb) (m r' hb')
/-- an owned container at a place is changed, with the temporary on top -/
theorem WF.mutAt {d' : D} {v' : V} {k : Kd} {ds : List D} (w : WF K cl F H (psh d' rd) (psh v' rv)) (i : ι) {p : List Sp1} (hg : dget (rd i) p = some (.obj .own k ds)) (hd : down (rd i) p = true) :
    ∃ a vs u f', VAt K cl H p (rd i) (rv i) (.ref a) ∧ H a = some u ∧ kHO cl k vs u ∧ vs.length = ds.length ∧ Rep K cl F H d' v' f' ∧ ∀ (u' : HO) (k' : Kd) (ds' : List D) (vs' : List V), kHO cl k' vs' u' →
      (∀ fps, Reps K cl F H ds vs fps → (fps ++ f').Nodup → ∃ fq, Reps K cl F H ds' vs' fq ∧ fq.Nodup ∧ ∀ b, b ∈ fq → b ∈ fps ++ f') →
        WF K cl F (upd H a u') (fset rd i (dput (rd i) p (.obj .own k' ds'))) rv := by
  obtain ⟨fp, h1, h2, h3⟩ := w.fp
  have hr := h1 (some i)
  obtain ⟨z, fx, va, rx, nx, sx, put⟩ := Rep.at w.ex p hr (h2 (some i)) hg
  obtain ⟨a, vs, fps, rfl, ⟨n1, ⟨u, n2, n3⟩, rfl⟩, rs⟩ := rx
  refine ⟨a, vs, u, fp none, va, n2, n3, rs.len, h1 none, fun u' k' ds' vs' hu hq => ?_⟩
  have ndx := List.nodup_cons.mp nx
  have dis : ∀ b, b ∈ fps → b ∉ fp none := fun b hb hb' => by
    cases h3 (some i) none b (sx b (by simp [hb])) hb'
  obtain ⟨fq, rq, nq, mq⟩ := hq fps rs (List.nodup_append.mpr ⟨ndx.2, h2 none, fun x hx y hy e => dis x hx (e ▸ hy)⟩)
  have anone : a ∉ fp none := fun h => by cases h3 (some i) none a (sx a (by simp)) h
  have aq : a ∉ fq := fun h => by
    rcases List.mem_append.mp (mq a h) with q | q
    · exact ndx.1 q
    · exact anone q
  have rq' : Reps K cl F (upd H a u') ds' vs' fq := Reps.mono _ rq (Ex.refl F) fun b hb => ⟨(Reps.fp _ rq b hb).1, upd_ne fun e => aq (e ▸ hb)⟩
  have rx' : Rep K cl F (upd H a u') (.obj .own k' ds') (.ref a) (a :: fq) := ⟨a, vs', fq, rfl, ⟨n1, ⟨u', upd_same, hu⟩, rfl⟩, rq'⟩
  obtain ⟨fp', rp, ndp, mem⟩ := put (Ex.refl F) (fun b hb hx => ⟨(Rep.fp _ hr b hb).1, upd_ne fun e => hx (by rw [e]; simp)⟩) rx' (List.nodup_cons.mpr ⟨aq, nq⟩)
    (fun b hb => by
      rcases List.mem_cons.mp hb with e | hb
      · exact .inl (by rw [e]; simp)
      · rcases List.mem_append.mp (mq b hb) with q | q
        · exact .inl (by simp [q])
        · exact .inr fun z => by cases h3 (some i) none b z q) (.inl hd)
  have mem' : ∀ b, b ∈ fp' → b ∈ fp (some i) ∨ b ∈ fp none := fun b hb => by
    rcases mem b hb with q | q
    · rcases List.mem_cons.mp q with e | q
      · exact .inl (by rw [e]; exact sx a (by simp))
      · rcases List.mem_append.mp (mq b q) with q | q
        · exact .inl (sx b (by simp [q]))
        · exact .inr q
    · exact .inl q.1
  refine ⟨fun b o h => ?_, fset (fun r => fp (some r)) i fp', fun r => ?_, fun r => ?_, fun r r' b hb hb' => ?_⟩
  · rw [upd_ne fun e => by rw [e, n1] at h; cases h]
    exact w.ex b o h
  · by_cases q : r = i
    · subst q; rw [fset_same, fset_same]; exact rp
    · rw [fset_ne q, fset_ne q]
      refine Rep.mono _ (h1 (some r)) (Ex.refl F) fun b hb => ⟨(Rep.fp _ (h1 (some r)) b hb).1, upd_ne fun e => ?_⟩
      have := h3 (some r) (some i) b hb (by rw [e]; exact sx a (by simp))
      exact q (Option.some.inj this)
  · by_cases q : r = i
    · subst q; rw [fset_same]; exact ndp
    · rw [fset_ne q]; exact h2 _
  · have m : ∀ r, b ∈ fset (fun r => fp (some r)) i fp' r → b ∈ fp (some r) ∨ (r = i ∧ b ∈ fp none) := fun r h => by
      by_cases q : r = i
      · subst q; rw [fset_same] at h; exact (mem' b h).imp id fun z => ⟨rfl, z⟩
      · rw [fset_ne q] at h; exact .inl h
    rcases m r hb with q | ⟨q, q'⟩ <;> rcases m r' hb' with z | ⟨z, z'⟩
    · exact Option.some.inj (h3 _ _ b q z)
    · cases h3 _ _ b q z'
    · cases h3 _ _ b q' z
    · rw [q, z]
end
end Rf
namespace Rf
open PySem L2
/-! the state of a def that runs, and its readings -/
/-- a slot holds a tree, or is one of the arguments that were lent -/
inductive Sl where
  | val (d : D) | len (k : Nat)
structure M where
  sl : List Sl
  ls : List D
inductive R (α : Type) where
  | ok (a : α) (m : M) | ex (c : Nat) (n : Option Int) (m : M) | no
def R.bind {α β : Type} : R α → (α → M → R β) → R β
  | .ok a m, f => f a m
  | .ex c n m, _ => .ex c n m
  | .no, _ => .no
def ofO {α : Type} (o : Option α) (m : M) : R α := match o with
  | some a => .ok a m
  | none => .no
def Sl.d : Sl → D
  | .val d => d
  | .len _ => .abs
inductive Ix (φ : Type) where
  | fr (r : φ) | l (k : Nat) | s (i : Nat)
def cD {φ : Type} (m : M) (fd : φ → D) : Ix φ → D
  | .fr r => fd r
  | .l k => m.ls[k]?.getD .abs
  | .s i => ((m.sl[i]?).map Sl.d).getD .abs
def cV {φ : Type} (σ : St) (lv : List V) (fv : φ → V) : Ix φ → V
  | .fr r => fv r
  | .l k => lv[k]?.getD .non
  | .s i => (σ[i]?.join).getD .non
/-- what stands in slot i -/
def rd (m : M) (i : Nat) : D := match m.sl[i]? with
  | some (.val d) => d
  | some (.len k) => m.ls[k]?.getD .abs
  | none => .abs
def wr (m : M) (i : Nat) (d : D) : M := match m.sl[i]? with
  | some (.val _) => { m with sl := m.sl.set i (.val d) }
  | some (.len k) => { m with ls := m.ls.set k d }
  | none => m
def isAbs : D → Bool
  | .abs => true
  | _ => false
section
variable (K : PySem.W.Frag) (cl : Nat → Addr) {φ : Type}
structure Rel (fd : φ → D) (fv : φ → V) (F H : Hp) (σ : St) (m : M) (lv : List V) : Prop where
  wf : WF K cl F H (cD m fd) (cV σ lv fv)
  ll : lv.length = m.ls.length
  sl : σ.length = m.sl.length
  vs : ∀ (i : Nat) (d : D), m.sl[i]? = some (Sl.val d) → d ≠ D.abs → ∃ v, σ[i]? = some (some v)
  vl : ∀ (i k : Nat), m.sl[i]? = some (Sl.len k) → k < m.ls.length ∧ ∃ v, lv[k]? = some v ∧ σ[i]? = some (some v)
end
section
variable {K : PySem.W.Frag} {cl : Nat → Addr} {φ : Type} {fd : φ → D} {fv : φ → V} {F H F' H' : Hp} {σ : St} {m : M} {lv : List V}
/-- a temporary more: it may be told as one of the frame's -/
theorem WF.ofTop {d : D} {v : V} (w : WF K cl F H (psh d (cD m fd)) (psh v (cV σ lv fv))) : WF K cl F H (cD m (psh d fd)) (cV σ lv (psh v fv)) := by
  refine w.map (fun a => match a with | .fr none => some none | .fr (some r) => some (some (.fr r)) | .l k => some (some (.l k)) | .s i => some (some (.s i))) (fun a b r h1 h2 => ?_) (fun a r h => ?_) (fun a h => ?_)
  · have e := h1.trans h2.symm
    rcases a with (_ | a) | a | a <;> rcases b with (_ | b) | b | b <;> first | rfl | (simp at e; done) | (simp at e; subst e; rfl)
  · rcases a with (_ | a) | a | a <;> (cases h; exact ⟨rfl, rfl⟩)
  · rcases a with (_ | a) | a | a <;> cases h
theorem WF.toTop {d : D} {v : V} (w : WF K cl F H (cD m (psh d fd)) (cV σ lv (psh v fv))) : WF K cl F H (psh d (cD m fd)) (psh v (cV σ lv fv)) := by
  refine w.map (fun a => match a with | none => some (.fr none) | some (.fr r) => some (.fr (some r)) | some (.l k) => some (.l k) | some (.s i) => some (.s i)) (fun a b r h1 h2 => ?_) (fun a r h => ?_) (fun a h => ?_)
  · have e := h1.trans h2.symm
    rcases a with _ | (a | a | a) <;> rcases b with _ | (b | b | b) <;> first | rfl | (simp at e; done) | (simp at e; subst e; rfl)
  · rcases a with _ | (a | a | a) <;> (cases h; exact ⟨rfl, rfl⟩)
  · rcases a with _ | (a | a | a) <;> cases h
theorem Rel.push {d : D} {v : V} (r : Rel K cl fd fv F H σ m lv) (w : WF K cl F' H' (psh d (cD m fd)) (psh v (cV σ lv fv))) : Rel K cl (psh d fd) (psh v fv) F' H' σ m lv :=
  ⟨w.ofTop, r.ll, r.sl, r.vs, r.vl⟩
theorem Rel.pop {d : D} {v : V} (r : Rel K cl (psh d fd) (psh v fv) F H σ m lv) : Rel K cl fd fv F H σ m lv := ⟨r.wf.toTop.pop, r.ll, r.sl, r.vs, r.vl⟩
theorem Rel.with (r : Rel K cl fd fv F H σ m lv) (w : WF K cl F' H' (cD m fd) (cV σ lv fv)) : Rel K cl fd fv F' H' σ m lv := ⟨w, r.ll, r.sl, r.vs, r.vl⟩
/-- the root of a slot -/
def root (φ : Type) (m : M) (i : Nat) : Ix φ := match m.sl[i]? with
  | some (.len k) => .l k
  | _ => .s i
theorem Rel.at (r : Rel K cl fd fv F H σ m lv) {i : Nat} (h : isAbs (rd m i) = false) : cD m fd (root φ m i) = rd m i ∧ σ[i]? = some (some (cV σ lv fv (root φ m i))) := by
  unfold rd at h ⊢
  unfold root
  cases e : m.sl[i]? with
  | none => rw [e] at h; cases h
  | some s =>
    cases s with
    | val d =>
      rw [e] at h
      refine ⟨by simp [cD, e, Sl.d], ?_⟩
      obtain ⟨v, hv⟩ := r.vs i d e (by intro q; rw [q] at h; cases h)
      simp [cV, hv]
    | len k =>
      obtain ⟨_, v, h1, h2⟩ := r.vl i k e
      simp [cV, cD, h1, h2]
/-- a slot's thing changes, not its place -/
theorem cD_wr (r : Rel K cl fd fv F H σ m lv) {i : Nat} (h : isAbs (rd m i) = false) (d : D) : cD (wr m i d) fd = fset (cD m fd) (root φ m i) d := by
  unfold rd at h
  funext x
  unfold root wr
  cases e : m.sl[i]? with
  | none => rw [e] at h; cases h
  | some s =>
    have hi : i < m.sl.length := (List.getElem?_eq_some_iff.mp e).1
    cases s with
    | val d0 =>
      simp only
      cases x with
      | fr x => rw [fset_ne (by simp)]; rfl
      | l k => rw [fset_ne (by simp)]; rfl
      | s j =>
        by_cases q : j = i
        · subst q; rw [fset_same]; simp [cD, hi, Sl.d]
        · rw [fset_ne (by simpa using q)]; simp [cD, List.getElem?_set_ne (Ne.symm q)]
    | len k0 =>
      obtain ⟨hk, _⟩ := r.vl i k0 e
      simp only
      cases x with
      | fr x => rw [fset_ne (by simp)]; rfl
      | s j => rw [fset_ne (by simp)]; rfl
      | l k =>
        by_cases q : k = k0
        · subst q; rw [fset_same]; simp [cD, hk]
        · rw [fset_ne (by simpa using q)]; simp [cD, List.getElem?_set_ne (Ne.symm q)]
theorem Rel.wr (r : Rel K cl fd fv F H σ m lv) {i : Nat} (h : isAbs (rd m i) = false) {d : D} (w : WF K cl F' H' (fset (cD m fd) (root φ m i) d) (cV σ lv fv)) : Rel K cl fd fv F' H' σ (wr m i d) lv := by
  refine ⟨by rw [cD_wr r h]; exact w, ?_, ?_, fun j e hj hne => ?_, fun j k hj => ?_⟩
  · unfold Rf.wr; split <;> simp [r.ll]
  · unfold Rf.wr; split <;> simp [r.sl]
  · by_cases q : j = i
    · subst q; exact ⟨_, (r.at h).2⟩
    · have hj' : m.sl[j]? = some (.val e) := by
        unfold Rf.wr at hj; split at hj
        · simpa [List.getElem?_set_ne (Ne.symm q)] using hj
        · exact hj
        · exact hj
      exact r.vs j e hj' hne
  · have hj' : m.sl[j]? = some (.len k) := by
      unfold Rf.wr at hj; split at hj
      · rename_i d0 e
        by_cases q : j = i
        · subst q
          have : j < m.sl.length := (List.getElem?_eq_some_iff.mp e).1
          simp [this] at hj
        · simpa [List.getElem?_set_ne (Ne.symm q)] using hj
      · exact hj
      · exact hj
    obtain ⟨h1, h2⟩ := r.vl j k hj'
    refine ⟨?_, h2⟩
    unfold Rf.wr; split <;> simp [h1]
/-- a slot is stored: the temporary becomes the slot's -/
def setS (m : M) (i : Nat) (d : D) : M := { m with sl := m.sl.set i (.val d) }
theorem Rel.store {d : D} {v : V} (r : Rel K cl (psh d fd) (psh v fv) F H σ m lv) {i : Nat} (hi : i < m.sl.length) : Rel K cl fd fv F H (σ.set i (some v)) (setS m i d) lv := by
  have w := r.wf.toTop.store (.s i)
  refine ⟨w.map some (fun a b x h1 h2 => by rw [Option.some.inj h1, Option.some.inj h2]) (fun a x h => ?_) (fun a h => by cases h), r.ll, by simp [setS, r.sl], fun j e hj hne => ?_, fun j k hj => ?_⟩
  · cases h
    cases a with
    | fr x => rw [fset_ne (by simp), fset_ne (by simp)]; exact ⟨rfl, rfl⟩
    | l k => rw [fset_ne (by simp), fset_ne (by simp)]; exact ⟨rfl, rfl⟩
    | s j =>
      by_cases q : j = i
      · subst q; rw [fset_same, fset_same]; simp [cD, cV, setS, hi, Sl.d, r.sl]
      · rw [fset_ne (by simpa using q), fset_ne (by simpa using q)]; simp [cD, cV, setS, List.getElem?_set_ne (Ne.symm q)]
  · by_cases q : j = i
    · subst q; exact ⟨v, by simp [r.sl, hi]⟩
    · have hj : m.sl[j]? = some (.val e) := by simpa [setS, List.getElem?_set_ne (Ne.symm q)] using hj
      obtain ⟨w, hw⟩ := r.vs j e hj hne
      exact ⟨w, by rw [List.getElem?_set_ne (Ne.symm q)]; exact hw⟩
  · by_cases q : j = i
    · subst q; simp [setS, hi] at hj
    · have hj : m.sl[j]? = some (.len k) := by simpa [setS, List.getElem?_set_ne (Ne.symm q)] using hj
      obtain ⟨h1, w, h2, h3⟩ := r.vl j k hj
      exact ⟨h1, w, h2, by rw [List.getElem?_set_ne (Ne.symm q)]; exact h3⟩
end
/-! ### readings -/
/-- an exception's own dict -/
structure XC where
  cls : Nat → Addr
  fld : Nat → Str
def ExcAt (xc : XC) (c : Nat) (n : Option Int) (dx : Option Addr) (H : Hp) : Prop := match n with
  | none => dx = none
  | some i => ∃ a, dx = some a ∧ H a = some (.xd [(xc.fld c, .int i)])
section
variable (K : PySem.W.Frag) (cl : Nat → Addr) (xc : XC) (W : WX)
def tE (f : M → R D) : TE := fun σ H Q => ∃ (φ : Type) (fd : φ → D) (fv : φ → V) (F : Hp) (m : M) (lv : List V), Rel K cl fd fv F H σ m lv ∧ match f m with
  | .ok d m' => ∀ (F' H' : Hp) (v : V), Rel K cl (psh d fd) (psh v fv) F' H' σ m' lv → Q v H'
  | .ex c n m' => ∀ (F' H' : Hp) (dx : Option Addr), Rel K cl fd fv F' H' σ m' lv → ExcAt xc c n dx H' → W (.ref (xc.cls c)) dx σ H'
  | .no => False
/-- a test -/
def tT (f : M → R Bool) : TT := fun σ H Q => ∃ (φ : Type) (fd : φ → D) (fv : φ → V) (F : Hp) (m : M) (lv : List V), Rel K cl fd fv F H σ m lv ∧ match f m with
  | .ok b m' => ∀ (F' H' : Hp), Rel K cl fd fv F' H' σ m' lv → Q b H'
  | .ex c n m' => ∀ (F' H' : Hp) (dx : Option Addr), Rel K cl fd fv F' H' σ m' lv → ExcAt xc c n dx H' → W (.ref (xc.cls c)) dx σ H'
  | .no => False
/-- an argument list -/
def tA (f : M → R (List D)) : TA := fun σ H Q => ∃ (φ : Type) (fd : φ → D) (fv : φ → V) (F : Hp) (m : M) (lv : List V), Rel K cl fd fv F H σ m lv ∧ match f m with
  | .ok ds m' => ∀ (F' H' : Hp) (vs : List V), vs.length = ds.length → Rel K cl (pshs .abs ds fd) (pshs .non vs fv) F' H' σ m' lv → Q vs H'
  | .ex c n m' => ∀ (F' H' : Hp) (dx : Option Addr), Rel K cl fd fv F' H' σ m' lv → ExcAt xc c n dx H' → W (.ref (xc.cls c)) dx σ H'
  | .no => False
inductive Fl where
  | nx | bk | ct | rt (d : D)
def tS (f : M → R Fl) : TS := fun Dn σ H => ∃ (φ : Type) (fd : φ → D) (fv : φ → V) (F : Hp) (m : M) (lv : List V), Rel K cl fd fv F H σ m lv ∧ match f m with
  | .ok .nx m' => ∀ (F' H' : Hp) (σ' : St), Rel K cl fd fv F' H' σ' m' lv → Dn.nx σ' H'
  | .ok .bk m' => ∀ (F' H' : Hp) (σ' : St), Rel K cl fd fv F' H' σ' m' lv → Dn.bk σ' H'
  | .ok .ct m' => ∀ (F' H' : Hp) (σ' : St), Rel K cl fd fv F' H' σ' m' lv → Dn.ct σ' H'
  | .ok (.rt d) m' => ∀ (F' H' : Hp) (σ' : St) (v : V), Rel K cl (psh d fd) (psh v fv) F' H' σ' m' lv → Dn.rt v H'
  | .ex c n m' => ∀ (F' H' : Hp) (σ' : St) (dx : Option Addr), Rel K cl fd fv F' H' σ' m' lv → ExcAt xc c n dx H' → W (.ref (xc.cls c)) dx σ' H'
  | .no => False
end
section
variable {X : Cx} {e : Expr}
theorem pe_imp {t t' : TE} (h : PE X e t) (i : ∀ σ H Q, t' σ H Q → t σ H Q) : PE X e t' := ⟨fun pins s σ H Q I q => h.run pins s σ H Q I (i σ H Q q)⟩
theorem pt_imp {t t' : TT} (h : PT X e t) (i : ∀ σ H Q, t' σ H Q → t σ H Q) : PT X e t' := ⟨fun pins s σ H Q I q => h.run pins s σ H Q I (i σ H Q q)⟩
theorem pw_imp {t t' : TT} (h : PW X e t) (i : ∀ σ H Q, t' σ H Q → t σ H Q) : PW X e t' := ⟨fun wh pins s σ H Q I q => h.run wh pins s σ H Q I (i σ H Q q)⟩
theorem pa_imp {es : List Expr} {t t' : TA} (h : PA X es t) (i : ∀ σ H Q, t' σ H Q → t σ H Q) : PA X es t' := ⟨fun pos pins s σ H Q I q => h.run pos pins s σ H Q I (i σ H Q q)⟩
theorem ps_imp {st : Stmt} {t t' : TS} (h : PS X st t) (i : ∀ Dn σ H, t' Dn σ H → t Dn σ H) : PS X st t' := ⟨fun pins s σ H Dn I q => h.run pins s σ H Dn I (i Dn σ H q)⟩
theorem pss_imp {st : List Stmt} {t t' : TS} (h : PSs X st t) (i : ∀ Dn σ H, t' Dn σ H → t Dn σ H) : PSs X st t' := ⟨fun pins s σ H Dn I q => h.run pins s σ H Dn I (i Dn σ H q)⟩
end
end Rf
namespace Rf
open PySem L2
section
variable {K : PySem.W.Frag} {cl : Nat → Addr} {xc : XC} {W : WX} {F H : Hp} {ι φ : Type} {σ : St}
/-- two temporaries, told ahead of all -/
theorem WF.toTop2 {m : M} {lv : List V} {fd : φ → D} {fv : φ → V} {d e : D} {v u : V} (w : WF K cl F H (cD m (psh d (psh e fd))) (cV σ lv (psh v (psh u fv)))) : WF K cl F H (psh d (psh e (cD m fd))) (psh v (psh u (cV σ lv fv))) := by
  refine w.map (fun a => match a with | none => some (.fr none) | some none => some (.fr (some none)) | some (some (.fr r)) => some (.fr (some (some r))) | some (some (.l k)) => some (.l k) | some (some (.s i)) => some (.s i)) (fun a b r h1 h2 => ?_) (fun a r h => ?_) (fun a h => ?_)
  · have e := h1.trans h2.symm
    rcases a with _ | (_ | (a | a | a)) <;> rcases b with _ | (_ | (b | b | b)) <;> first | rfl | (simp at e; done) | (simp at e; subst e; rfl)
  · rcases a with _ | (_ | (a | a | a)) <;> (cases h; exact ⟨rfl, rfl⟩)
  · rcases a with _ | (_ | (a | a | a)) <;> cases h
theorem WF.toTops {m : M} {lv : List V} {fd : φ → D} {fv : φ → V} {ds : List D} {vs : List V} (w : WF K cl F H (cD m (pshs .abs ds fd)) (cV σ lv (pshs .non vs fv))) : WF K cl F H (pshs .abs ds (cD m fd)) (pshs .non vs (cV σ lv fv)) := by
  refine w.map (fun a => match a with | .inl i => some (.fr (.inl i)) | .inr (.fr r) => some (.fr (.inr r)) | .inr (.l k) => some (.l k) | .inr (.s i) => some (.s i)) (fun a b r h1 h2 => ?_) (fun a r h => ?_) (fun a h => ?_)
  · have e := h1.trans h2.symm
    rcases a with a | (a | a | a) <;> rcases b with b | (b | b | b) <;> first | (simp at e; done) | (simp at e; subst e; rfl)
  · rcases a with a | (a | a | a) <;> (cases h; exact ⟨rfl, rfl⟩)
  · rcases a with a | (a | a | a) <;> cases h
theorem WF.ofTops {m : M} {lv : List V} {fd : φ → D} {fv : φ → V} {ds : List D} {vs : List V} (w : WF K cl F H (pshs .abs ds (cD m fd)) (pshs .non vs (cV σ lv fv))) : WF K cl F H (cD m (pshs .abs ds fd)) (cV σ lv (pshs .non vs fv)) := by
  refine w.map (fun a => match a with | .fr (.inl i) => some (.inl i) | .fr (.inr r) => some (.inr (.fr r)) | .l k => some (.inr (.l k)) | .s i => some (.inr (.s i))) (fun a b r h1 h2 => ?_) (fun a r h => ?_) (fun a h => ?_)
  · have e := h1.trans h2.symm
    rcases a with (a | a) | a | a <;> rcases b with (b | b) | b | b <;> first | (simp at e; done) | (simp at e; subst e; rfl)
  · rcases a with (a | a) | a | a <;> (cases h; exact ⟨rfl, rfl⟩)
  · rcases a with (a | a) | a | a <;> cases h
/-- an argument more, ahead of the others -/
theorem WF.consTop {rd : ι → D} {rv : ι → V} {d : D} {v : V} {ds : List D} {vs : List V} (w : WF K cl F H (pshs .abs ds (psh d rd)) (pshs .non vs (psh v rv))) : WF K cl F H (pshs .abs (d :: ds) rd) (pshs .non (v :: vs) rv) := by
  refine w.map (fun a => match a with | .inl 0 => some (.inr none) | .inl (i + 1) => some (.inl i) | .inr r => some (.inr (some r))) (fun a b r h1 h2 => ?_) (fun a r h => ?_) (fun a h => ?_)
  · have e := h1.trans h2.symm
    rcases a with (_ | a) | a <;> rcases b with (_ | b) | b <;> first | rfl | (simp at e; done) | (simp at e; subst e; rfl)
  · rcases a with (_ | a) | a <;> (cases h; exact ⟨rfl, rfl⟩)
  · rcases a with (_ | a) | a <;> cases h
theorem WF.noTops {rd : ι → D} {rv : ι → V} (w : WF K cl F H rd rv) : WF K cl F H (pshs .abs [] rd) (pshs .non [] rv) := by
  refine w.map (fun a => match a with | .inl _ => none | .inr r => some r) (fun a b r h1 h2 => ?_) (fun a r h => ?_) (fun a h => ?_)
  · rcases a with a | a <;> rcases b with b | b <;> first | (cases h1; done) | (cases h2; done) | (cases h1; cases h2; rfl)
  · rcases a with a | a
    · cases h
    · cases h; exact ⟨rfl, rfl⟩
  · rcases a with a | a
    · rfl
    · cases h
theorem WF.dropTops {rd : ι → D} {rv : ι → V} {ds : List D} {vs : List V} (w : WF K cl F H (pshs .abs ds rd) (pshs .non vs rv)) : WF K cl F H rd rv :=
  w.map (fun r => some (.inr r)) (fun a b r h1 h2 => by have e := h1.trans h2.symm; simp at e; exact e) (fun a r h => by cases h; exact ⟨rfl, rfl⟩) (fun a h => by cases h)
theorem WF.oneTop {rd : ι → D} {rv : ι → V} {d : D} {v : V} (w : WF K cl F H (pshs .abs [d] rd) (pshs .non [v] rv)) : WF K cl F H (psh d rd) (psh v rv) :=
  w.map (fun r => match r with | none => some (.inl 0) | some r => some (.inr r)) (fun a b r h1 h2 => by
    have e := h1.trans h2.symm
    rcases a with _ | a <;> rcases b with _ | b <;> first | rfl | (simp at e; done) | (simp at e; subst e; rfl)) (fun a r h => by rcases a with _ | a <;> (cases h; exact ⟨rfl, rfl⟩)) (fun a h => by rcases a with _ | a <;> cases h)
theorem Rel.tops {m : M} {lv : List V} {fd : φ → D} {fv : φ → V} {F' H' : Hp} {ds : List D} {vs : List V} (r : Rel K cl fd fv F H σ m lv) (w : WF K cl F' H' (pshs .abs ds (cD m fd)) (pshs .non vs (cV σ lv fv))) : Rel K cl (pshs .abs ds fd) (pshs .non vs fv) F' H' σ m lv :=
  ⟨w.ofTops, r.ll, r.sl, r.vs, r.vl⟩
theorem Rel.untops {m : M} {lv : List V} {fd : φ → D} {fv : φ → V} {ds : List D} {vs : List V} (r : Rel K cl (pshs .abs ds fd) (pshs .non vs fv) F H σ m lv) : Rel K cl fd fv F H σ m lv :=
  ⟨r.wf.toTops.dropTops, r.ll, r.sl, r.vs, r.vl⟩
/-- what is wanted of an exception -/
def PostX (K : PySem.W.Frag) (cl : Nat → Addr) (xc : XC) (W : WX) (fd : φ → D) (fv : φ → V) (σ : St) (lv : List V) (c : Nat) (n : Option Int) (m : M) : Prop :=
  ∀ (F' H' : Hp) (dx : Option Addr), Rel K cl fd fv F' H' σ m lv → ExcAt xc c n dx H' → W (.ref (xc.cls c)) dx σ H'
/-- bind, for values -/
theorem tE_bind {f : M → R D} {g : D → M → R D} {H : Hp} {Q P : VK} (h : tE K cl xc W (fun m => (f m).bind g) σ H Q)
    (hp : ∀ (φ : Type) (fd : φ → D) (fv : φ → V) (F H1 : Hp) (m : M) (lv : List V) (x : V) (d : D), Rel K cl (psh d fd) (psh x fv) F H1 σ m lv → (match g d m with
      | .ok d m' => ∀ (F' H' : Hp) (v : V), Rel K cl (psh d fd) (psh v fv) F' H' σ m' lv → Q v H'
      | .ex c n m' => PostX K cl xc W fd fv σ lv c n m'
      | .no => False) → P x H1) : tE K cl xc W f σ H P := by
  obtain ⟨φ, fd, fv, F, m, lv, r, q⟩ := h
  refine ⟨φ, fd, fv, F, m, lv, r, ?_⟩
  cases e : f m with
  | ok d m1 =>
    simp only [e, R.bind] at q ⊢
    exact fun F' H' v r' => hp φ fd fv F' H' m1 lv v d r' q
  | ex c n m1 => simpa only [e, R.bind] using q
  | no => simp only [e, R.bind] at q
/-- a value asked for behind another one -/
theorem tE_next {f : M → R D} {g : D → M → R D} {φ : Type} {fd : φ → D} {fv : φ → V} {F H : Hp} {m : M} {lv : List V} {d0 : D} {v0 : V} {Q P : VK} (r : Rel K cl (psh d0 fd) (psh v0 fv) F H σ m lv)
    (h : match (f m).bind g with
      | .ok d m' => ∀ (F' H' : Hp) (v : V), Rel K cl (psh d fd) (psh v fv) F' H' σ m' lv → Q v H'
      | .ex c n m' => PostX K cl xc W fd fv σ lv c n m'
      | .no => False)
    (hp : ∀ (F H1 : Hp) (m : M) (x : V) (d : D), Rel K cl (psh d (psh d0 fd)) (psh x (psh v0 fv)) F H1 σ m lv → (match g d m with
      | .ok d m' => ∀ (F' H' : Hp) (v : V), Rel K cl (psh d fd) (psh v fv) F' H' σ m' lv → Q v H'
      | .ex c n m' => PostX K cl xc W fd fv σ lv c n m'
      | .no => False) → P x H1) : tE K cl xc W f σ H P := by
  refine ⟨_, psh d0 fd, psh v0 fv, F, m, lv, r, ?_⟩
  cases e : f m with
  | ok d m1 =>
    simp only [e, R.bind] at h ⊢
    exact fun F' H' v r' => hp F' H' m1 v d r' h
  | ex c n m1 =>
    simp only [e, R.bind] at h ⊢
    exact fun F' H' dx r' => h F' H' dx r'.pop
  | no => simp only [e, R.bind] at h
/-! ### specifications of operations -/
def OpS (K : PySem.W.Frag) (cl : Nat → Addr) (r : R2) (op : D → D → Option D) : Prop := ∀ {ι : Type} (rd : ι → D) (rv : ι → V) (F H : Hp) (x y z : D) (vx vy : V) (Q : VK), op x y = some z →
  WF K cl F H (psh y (psh x rd)) (psh vy (psh vx rv)) → (∀ (F' H' : Hp) (v : V), WF K cl F' H' (psh z rd) (psh v rv) → Q v H') → r vx vy H Q
def UnS (K : PySem.W.Frag) (cl : Nat → Addr) (r : V → Hp → VK → Prop) (op : D → Option D) : Prop := ∀ {ι : Type} (rd : ι → D) (rv : ι → V) (F H : Hp) (x z : D) (vx : V) (Q : VK), op x = some z →
  WF K cl F H (psh x rd) (psh vx rv) → (∀ (F' H' : Hp) (v : V), WF K cl F' H' (psh z rd) (psh v rv) → Q v H') → r vx H Q
def CaS (K : PySem.W.Frag) (cl : Nat → Addr) (r : List V → Hp → VK → Prop) (op : List D → Option D) : Prop := ∀ {ι : Type} (rd : ι → D) (rv : ι → V) (F H : Hp) (xs : List D) (z : D) (vs : List V) (Q : VK), op xs = some z → vs.length = xs.length →
  WF K cl F H (pshs .abs xs rd) (pshs .non vs rv) → (∀ (F' H' : Hp) (v : V), WF K cl F' H' (psh z rd) (psh v rv) → Q v H') → r vs H Q
def MeS (K : PySem.W.Frag) (cl : Nat → Addr) (T : String) (r : V → List V → Hp → VK → Prop) (op : D → List D → Option D) : Prop := ∀ {ι : Type} (rd : ι → D) (rv : ι → V) (F H : Hp) (x : D) (xs : List D) (z : D) (vx : V) (vs : List V) (Q : VK), op x xs = some z → vs.length = xs.length →
  WF K cl F H (pshs .abs xs (psh x rd)) (pshs .non vs (psh vx rv)) → (∀ (F' H' : Hp) (v : V), WF K cl F' H' (psh z rd) (psh v rv) → Q v H') → r vx vs H Q
theorem OpS.or {r r' : R2} {op op' : D → D → Option D} (h : OpS K cl r op) (h' : OpS K cl r' op') : OpS K cl (fun x y H Q => r x y H Q ∨ r' x y H Q) (fun x y => (op x y).or (op' x y)) :=
  fun rd rv F H x y z vx vy Q e w k => by
    have e : (op x y).or (op' x y) = some z := e
    cases e1 : op x y with
    | some z1 =>
      rw [e1] at e
      have e : z1 = z := by simpa using e
      subst e
      exact .inl (h rd rv F H x y z1 vx vy Q e1 w k)
    | none =>
      rw [e1] at e
      exact .inr (h' rd rv F H x y z vx vy Q (by simpa using e) w k)
theorem OpS.imp {r r' : R2} {op : D → D → Option D} (h : OpS K cl r op) (i : ∀ x y H Q, r x y H Q → r' x y H Q) : OpS K cl r' op := fun rd rv F H x y z vx vy Q e w k => i _ _ _ _ (h rd rv F H x y z vx vy Q e w k)
end
/-! ### expressions -/
def dC (d : D) : M → R D := fun m => .ok d m
def dVar (i : Nat) : M → R D := fun m => match rd m i with
  | .abs => .no
  | .obj .own k ds => .ok (frz (.obj .own k ds)) (wr m i (frz (.obj .own k ds)))
  | d => .ok d m
def dMv (i : Nat) : M → R D := fun m => match m.sl[i]? with
  | some (.val d) => if isAbs d then .no else .ok d { m with sl := m.sl.set i (.val .abs) }
  | _ => dVar i m
def dBin (op : D → D → Option D) (f g : M → R D) : M → R D := fun m => (f m).bind fun x m => (g m).bind fun y m => ofO (op x y) m
def dUn (op : D → Option D) (f : M → R D) : M → R D := fun m => (f m).bind fun x m => ofO (op x) m
def dFz (f : M → R D) : M → R D := fun m => (f m).bind fun x m => .ok (frz x) m
section
variable {X : Cx} {cl : Nat → Addr} {xc : XC} {W : WX} {e a b c : Expr} {f g : M → R D} {pos : Pos}
abbrev PEd (X : Cx) (cl : Nat → Addr) (xc : XC) (W : WX) (e : Expr) (f : M → R D) : Prop := PE X e (tE X.K cl xc W f)
abbrev PTd (X : Cx) (cl : Nat → Addr) (xc : XC) (W : WX) (e : Expr) (f : M → R Bool) : Prop := PT X e (tT X.K cl xc W f)
abbrev PAd (X : Cx) (cl : Nat → Addr) (xc : XC) (W : WX) (es : List Expr) (f : M → R (List D)) : Prop := PA X es (tA X.K cl xc W f)
abbrev PSd (X : Cx) (cl : Nat → Addr) (xc : XC) (W : WX) (st : Stmt) (f : M → R Fl) : Prop := PS X st (tS X.K cl xc W f)
abbrev PSsd (X : Cx) (cl : Nat → Addr) (xc : XC) (W : WX) (st : List Stmt) (f : M → R Fl) : Prop := PSs X st (tS X.K cl xc W f)
theorem d_const {d : D} {v : V} (h : PE X e (tC v)) (s : Scal d v) : PEd X cl xc W e (dC d) := pe_imp h fun σ H Q ⟨φ, fd, fv, F, m, lv, r, q⟩ => q F H v (r.push (r.wf.dup0 s.rep))
theorem d_int {i : Int} {j : Nat} : PEd X cl xc W (.Constant (.int i) j pos) (dC (.int i)) := d_const pe_int rfl
theorem d_str {s : Str} {j : Nat} : PEd X cl xc W (.Constant (.str s) j pos) (dC (.str s)) := d_const pe_str rfl
theorem d_bl {s : Bool} {j : Nat} : PEd X cl xc W (.Constant (.bool s) j pos) (dC (.bl s)) := d_const pe_bl rfl
theorem d_non {j : Nat} : PEd X cl xc W (.Constant .none j pos) (dC .non) := d_const pe_non rfl
theorem d_var {i : Nat} {x : Str} (hN : X.N[i]? = some x) (hv : Vis X.env.scope x) (h1 : (x == ("__debug__" : Str)) = false) (h2 : (x == ("__classdict__" : Str)) = false) : PEd X cl xc W (.Name x pos) (dVar i) := by
  refine pe_imp (pe_var hN hv h1 h2) fun σ H Q ⟨φ, fd, fv, F, m, lv, r, q⟩ => ?_
  unfold dVar at q
  cases ed : rd m i with
  | abs => simp only [ed] at q
  | obj o k ds =>
    have hi : isAbs (rd m i) = false := by rw [ed]; rfl
    obtain ⟨q1, q2⟩ := r.at hi
    rw [ed] at q1
    cases o with
    | own =>
      simp only [ed] at q
      obtain ⟨F', w'⟩ := r.wf.read (root φ m i)
      rw [q1] at w'
      exact ⟨_, q2, q F' H _ ((r.wr hi w'.pop).push (by rw [cD_wr r hi]; exact w'))⟩
    | shr =>
      simp only [ed] at q
      obtain ⟨z, va, w'⟩ := r.wf.copyAt (root φ m i) (p := []) (x := .obj .shr k ds) (by rw [q1]; rfl) rfl
      have va : z = _ := va
      subst va
      exact ⟨_, q2, q F H _ (r.push w')⟩
    | con =>
      simp only [ed] at q
      obtain ⟨z, va, w'⟩ := r.wf.copyAt (root φ m i) (p := []) (x := .obj .con k ds) (by rw [q1]; rfl) rfl
      have va : z = _ := va
      subst va
      exact ⟨_, q2, q F H _ (r.push w')⟩
  | _ =>
    have hi : isAbs (rd m i) = false := by rw [ed]; rfl
    obtain ⟨q1, q2⟩ := r.at hi
    rw [ed] at q1
    simp only [ed] at q
    obtain ⟨z, va, w'⟩ := r.wf.copyAt (root φ m i) (p := []) (by rw [q1]; rfl) rfl
    have va : z = _ := va
    subst va
    exact ⟨_, q2, q F H _ (r.push w')⟩
theorem d_mv {i : Nat} {x : Str} (hN : X.N[i]? = some x) (hv : Vis X.env.scope x) (h1 : (x == ("__debug__" : Str)) = false) (h2 : (x == ("__classdict__" : Str)) = false) : PEd X cl xc W (.Name x pos) (dMv i) := by
  refine ⟨fun pins s σ H Q I h => ?_⟩
  obtain ⟨φ, fd, fv, F, m, lv, r, q⟩ := h
  have old : tE X.K cl xc W (dVar i) σ H Q → wpAny (model X.prog X.w) X.A (eval (.Name x pos) X.env) (EP X pins σ Q) X.xe s := fun h => (d_var (cl := cl) (xc := xc) (W := W) hN hv h1 h2).run pins s σ H Q I h
  unfold dMv at q
  cases e : m.sl[i]? with
  | none => simp only [e] at q; exact old ⟨φ, fd, fv, F, m, lv, r, q⟩
  | some s =>
    cases s with
    | len k => simp only [e] at q; exact old ⟨φ, fd, fv, F, m, lv, r, q⟩
    | val d =>
      simp only [e] at q
      have ed : rd m i = d := by unfold rd; rw [e]
      cases hd : isAbs d with
      | true => simp [hd] at q
      | false =>
        simp only [hd, Bool.false_eq_true, if_false] at q
        refine (pe_var hN hv h1 h2).run pins _ σ H Q I ?_
        have hi : isAbs (rd m i) = false := by rw [ed]; exact hd
        obtain ⟨q1, q2⟩ := r.at hi
        have er : root φ m i = .s i := by unfold root; rw [e]
        have ew : wr m i .abs = { m with sl := m.sl.set i (.val .abs) } := by unfold wr; rw [e]
        have w' := r.wf.move (root φ m i)
        rw [q1, ed] at w'
        refine ⟨_, q2, q F H _ ?_⟩
        rw [← ew]
        exact (r.wr hi w'.pop).push (by rw [cD_wr r hi]; exact w')
theorem d_bin {op : Operator} {r : R2} {o : D → D → Option D} (ho : OpR X (binaryOp op) r) (hs : OpS X.K cl r o) (ha : PEd X cl xc W a f) (hb : PEd X cl xc W b g) : PEd X cl xc W (.BinOp a op b pos) (dBin o f g) :=
  pe_imp (pe_op ho ha hb) fun σ H Q h => tE_bind h fun φ fd fv F H1 m lv x d r1 q => tE_next r1 q fun F2 H2 m2 y d2 r2 q2 => by
    unfold ofO at q2
    cases e : o d d2 with
    | none => simp only [e] at q2
    | some z =>
      simp only [e] at q2
      exact hs _ _ F2 H2 d d2 z x y Q e r2.wf.toTop2 fun F' H' v w => q2 F' H' v (r2.pop.pop.push w)
theorem d_cmp {op : CmpOp} {r : R2} {o : D → D → Option D} (ho : OpR X (compareOp op) r) (hs : OpS X.K cl r o) (ha : PEd X cl xc W a f) (hb : PEd X cl xc W b g) (hm : behindInMarks op b = false) : PEd X cl xc W (.Compare a [op] [b] pos) (dBin o f g) :=
  pe_imp (pe_cmpR ho ha hb hm) fun σ H Q h => tE_bind h fun φ fd fv F H1 m lv x d r1 q => tE_next r1 q fun F2 H2 m2 y d2 r2 q2 => by
    unfold ofO at q2
    cases e : o d d2 with
    | none => simp only [e] at q2
    | some z =>
      simp only [e] at q2
      exact hs _ _ F2 H2 d d2 z x y Q e r2.wf.toTop2 fun F' H' v w => q2 F' H' v (r2.pop.pop.push w)
theorem d_un {op : UnaryOp} {r : V → Hp → VK → Prop} {o : D → Option D} (ho : UnR X (unaryOp op) r) (hs : UnS X.K cl r o) (ha : PEd X cl xc W a f) : PEd X cl xc W (.UnaryOp op a pos) (dUn o f) :=
  pe_imp (pe_un ho ha) fun σ H Q h => tE_bind h fun φ fd fv F H1 m lv x d r1 q => by
    unfold ofO at q
    cases e : o d with
    | none => simp only [e] at q
    | some z =>
      simp only [e] at q
      exact hs _ _ F H1 d z x Q e r1.wf.toTop fun F' H' v w => q F' H' v (r1.pop.push w)
/-- what is read is nobody's any more -/
theorem d_fz (ha : PEd X cl xc W a f) : PEd X cl xc W a (dFz f) :=
  pe_imp ha fun σ H Q h => tE_bind h fun φ fd fv F H1 m lv x d r1 q => by
    obtain ⟨F', w, _, _⟩ := r1.wf.toTop.frzTop
    exact q F' H1 x (r1.pop.push w)
end
end Rf
namespace Rf
open PySem L2
/-! scalars that are reckoned without a change; places -/
abbrev SF := M → Option D
def isSc : D → Bool
  | .non => true
  | .bl _ => true
  | .int _ => true
  | .str _ => true
  | _ => false
def toSc (d : D) : Option D := if isSc d then some d else none
/-- a step of a place -/
inductive Stp where
  | ix (s : SF) | fld (cs : List Nat) (f : Str)
def step1 (m : M) : D → Stp → Option (Sp1 × D)
  | .obj _ .lst ds, .ix s => match s m with
    | some (.int i) => match ixN ds.length i with
      | some j => (ds[j]?).map fun y => (.ix j, y)
      | none => none
    | _ => none
  | .obj _ .tup ds, .ix s => match s m with
    | some (.int i) => match ixN ds.length i with
      | some j => (ds[j]?).map fun y => (.ix j, y)
      | none => none
    | _ => none
  | .obj _ (.ins c ns) ds, .fld cs f => if cs.contains c then match ns.findIdx? (fun x => decide (x = f)) with
    | some j => (ds[j]?).map fun y => (.fld f, y)
    | none => none
    else none
  | _, _ => none
def resolve (m : M) : D → List Stp → Option (List Sp1 × D)
  | d, [] => some ([], d)
  | d, s :: ps => match step1 m d s with
    | some (q, y) => (resolve m y ps).map fun r => (q :: r.1, r.2)
    | none => none
theorem resolve_app (m : M) : ∀ (ps : List Stp) (d : D) (s : Stp), resolve m d (ps ++ [s]) = (resolve m d ps).bind fun r => (step1 m r.2 s).map fun q => (r.1 ++ [q.1], q.2)
  | [], d, s => by
    simp only [List.nil_append, resolve, Option.bind_some]
    cases step1 m d s with
    | none => rfl
    | some q => rfl
  | t :: ps, d, s => by
    simp only [List.cons_append, resolve]
    cases e : step1 m d t with
    | none => rfl
    | some q =>
      obtain ⟨q, y⟩ := q
      simp only
      rw [resolve_app m ps y s]
      cases resolve m y ps with
      | none => rfl
      | some r =>
        simp only [Option.bind_some, Option.map_some]
        cases step1 m r.2 s with
        | none => rfl
        | some z => rfl
theorem ixN_lt {n : Nat} {i : Int} {j : Nat} (h : ixN n i = some j) : j < n := (ixN_seq h).2.1
theorem step1_get {m : M} {d y : D} {s : Stp} {q : Sp1} (h : step1 m d s = some (q, y)) : dget d [q] = some y := by
  unfold step1 at h
  split at h
  · rename_i ds sf
    cases e : sf m with
    | none => simp [e] at h
    | some z =>
      cases z with
      | int i =>
        simp only [e] at h
        cases ej : ixN ds.length i with
        | none => simp [ej] at h
        | some j =>
          simp only [ej] at h
          cases ey : ds[j]? with
          | none => simp [ey] at h
          | some z =>
            simp only [ey, Option.map_some, Option.some.injEq, Prod.mk.injEq] at h
            obtain ⟨rfl, rfl⟩ := h
            simp only [dget, kix, if_pos (ixN_lt ej), ey]
      | _ => simp [e] at h
  · rename_i ds sf
    cases e : sf m with
    | none => simp [e] at h
    | some z =>
      cases z with
      | int i =>
        simp only [e] at h
        cases ej : ixN ds.length i with
        | none => simp [ej] at h
        | some j =>
          simp only [ej] at h
          cases ey : ds[j]? with
          | none => simp [ey] at h
          | some z =>
            simp only [ey, Option.map_some, Option.some.injEq, Prod.mk.injEq] at h
            obtain ⟨rfl, rfl⟩ := h
            simp only [dget, kix, if_pos (ixN_lt ej), ey]
      | _ => simp [e] at h
  · rename_i c ns ds cs f
    split at h
    case isFalse => cases h
    cases ej : ns.findIdx? (fun x => decide (x = f)) with
    | none => simp [ej] at h
    | some j =>
      simp only [ej] at h
      cases ey : ds[j]? with
      | none => simp [ey] at h
      | some z =>
        simp only [ey, Option.map_some, Option.some.injEq, Prod.mk.injEq] at h
        obtain ⟨rfl, rfl⟩ := h
        simp [dget, kix, ej, ey]
  · cases h
theorem dget_cons {q : Sp1} {p : List Sp1} {d y : D} (h : dget d [q] = some y) : dget d (q :: p) = dget y p := by
  cases d with
  | obj o k ds =>
    unfold dget at h
    conv => lhs; unfold dget
    cases e : kix ds.length k q with
    | none => rw [e] at h; cases h
    | some j =>
      simp only [e] at h ⊢
      cases ey : ds[j]? with
      | none => simp [ey] at h
      | some z =>
        simp only [ey] at h ⊢
        have : z = y := by simpa [dget] using h
        rw [this]
  | _ => simp [dget] at h
theorem resolve_get {m : M} : ∀ {ps : List Stp} {d x : D} {p : List Sp1}, resolve m d ps = some (p, x) → dget d p = some x
  | [], d, x, p, h => by
    simp only [resolve, Option.some.injEq, Prod.mk.injEq] at h
    obtain ⟨rfl, rfl⟩ := h
    simp [dget]
  | s :: ps, d, x, p, h => by
    simp only [resolve] at h
    cases e : step1 m d s with
    | none => simp [e] at h
    | some q =>
      obtain ⟨q, y⟩ := q
      simp only [e] at h
      cases er : resolve m y ps with
      | none => simp [er] at h
      | some r =>
        obtain ⟨r1, r2⟩ := r
        simp only [er, Option.map_some, Option.some.injEq, Prod.mk.injEq] at h
        obtain ⟨rfl, rfl⟩ := h
        rw [dget_cons (step1_get e)]
        exact resolve_get er
section
variable {K : PySem.W.Frag} {cl : Nat → Addr} {H : Hp}
theorem VAt.app : ∀ {p q : List Sp1} {d : D} {v w : V}, VAt K cl H (p ++ q) d v w → ∃ y u, dget d p = some y ∧ VAt K cl H p d v u ∧ VAt K cl H q y u w
  | [], q, d, v, w, h => ⟨d, v, by simp [dget], rfl, h⟩
  | s :: p, q, d, v, w, h => by
    obtain ⟨o, k, ds, a, vs, j, y, v1, rfl, rfl, h1, h2, h3, h4, h5, h6⟩ := h
    obtain ⟨z, u, g1, g2, g3⟩ := VAt.app (p := p) h6
    exact ⟨z, u, by unfold dget; simp only [h2, h3]; exact g1, ⟨o, k, ds, a, vs, j, y, v1, rfl, rfl, h1, h2, h3, h4, h5, g2⟩, g3⟩
/-- a row of fields by names -/
theorem lookup_zip {f : Str} : ∀ {ns : List Str} {vs : List V} {j : Nat} {v : V}, ns.findIdx? (fun x => decide (x = f)) = some j → vs[j]? = some v → ns.length = vs.length → (ns.zip vs).lookup f = some v
  | [], _, _, _, h, _, _ => by simp at h
  | n :: ns, [], _, _, _, _, h => by simp at h
  | n :: ns, v0 :: vs, j, v, h, hv, hl => by
    rw [List.findIdx?_cons] at h
    rw [List.zip_cons_cons, List.lookup_cons]
    by_cases e : n = f
    · subst e
      simp at h
      subst h
      simpa using hv
    · have e2 : (f == n) = false := by simpa using fun q => e q.symm
      simp only [e, decide_false, Bool.false_eq_true, if_false] at h
      rw [e2]
      cases hj : ns.findIdx? (fun x => decide (x = f)) with
      | none => rw [hj] at h; simp at h
      | some j' =>
        rw [hj] at h
        simp at h
        subst h
        exact lookup_zip hj (by simpa using hv) (by simpa using hl)
end
section
variable (K : PySem.W.Frag) (cl : Nat → Addr)
/-- a scalar, nothing changed -/
def tP (s : SF) : TE := fun σ H Q => ∃ (φ : Type) (fd : φ → D) (fv : φ → V) (F : Hp) (m : M) (lv : List V), Rel K cl fd fv F H σ m lv ∧ ∃ d, s m = some d ∧ isSc d = true ∧ ∀ v, Scal d v → Q v H
def tPT (s : M → Option Bool) : TT := fun σ H Q => ∃ (φ : Type) (fd : φ → D) (fv : φ → V) (F : Hp) (m : M) (lv : List V), Rel K cl fd fv F H σ m lv ∧ ∃ b, s m = some b ∧ Q b H
/-- the value at a place -/
def tPl (i : Nat) (ps : List Stp) : TE := fun σ H Q => ∃ (φ : Type) (fd : φ → D) (fv : φ → V) (F : Hp) (m : M) (lv : List V), Rel K cl fd fv F H σ m lv ∧ isAbs (rd m i) = false ∧
  ∃ p x w, resolve m (rd m i) ps = some (p, x) ∧ VAt K cl H p (rd m i) (cV σ lv fv (root φ m i)) w ∧ Q w H
end
section
variable {X : Cx} {cl : Nat → Addr} {xc : XC} {W : WX} {e a b c : Expr} {pos : Pos}
abbrev PEs (X : Cx) (cl : Nat → Addr) (e : Expr) (s : SF) : Prop := PE X e (tP X.K cl s)
abbrev PTs' (X : Cx) (cl : Nat → Addr) (e : Expr) (s : M → Option Bool) : Prop := PT X e (tPT X.K cl s)
abbrev PEl (X : Cx) (cl : Nat → Addr) (e : Expr) (i : Nat) (ps : List Stp) : Prop := PE X e (tPl X.K cl i ps)
theorem scal_of {d : D} (h : isSc d = true) {v u : V} (a : Scal d v) (b : Scal d u) : v = u := by
  cases d <;> first | (cases a; cases b; rfl) | cases h
def vOf : D → V
  | .bl b => .bl b
  | .int i => .int i
  | .str s => .str s
  | _ => .non
theorem scal_v {d : D} (h : isSc d = true) : Scal d (vOf d) := by cases d <;> first | rfl | cases h
/-- a scalar as any value -/
theorem d_s {s : SF} (h : PEs X cl e s) : PEd X cl xc W e (fun m => match s m with | some d => if isSc d then .ok d m else .no | none => .no) :=
  pe_imp h fun σ H Q ⟨φ, fd, fv, F, m, lv, r, q⟩ => by
    refine ⟨φ, fd, fv, F, m, lv, r, ?_⟩
    cases e : s m with
    | none => simp only [e] at q
    | some d =>
      simp only [e] at q
      cases hs : isSc d with
      | false => simp [hs] at q
      | true =>
        simp only [hs, if_true] at q
        exact ⟨d, rfl, hs, fun v hv => q F H v (r.push (r.wf.dup0 hv.rep))⟩
theorem l_var {i : Nat} {x : Str} (hN : X.N[i]? = some x) (hv : Vis X.env.scope x) (h1 : (x == ("__debug__" : Str)) = false) (h2 : (x == ("__classdict__" : Str)) = false) : PEl X cl (.Name x pos) i [] :=
  pe_imp (pe_var hN hv h1 h2) fun σ H Q ⟨φ, fd, fv, F, m, lv, r, hi, p, y, w, e, va, q⟩ => by
    simp only [resolve, Option.some.injEq, Prod.mk.injEq] at e
    obtain ⟨rfl, rfl⟩ := e
    have va : w = _ := va
    subst va
    exact ⟨_, (r.at hi).2, q⟩
theorem kIx {ds : List D} {s : SF} {o : Ow} {k : Kd} {m : M} {q : Sp1} {y : D} (h : step1 m (.obj o k ds) (.ix s) = some (q, y)) : (k = .lst ∨ k = .tup) ∧ ∃ i j, s m = some (.int i) ∧ ixN ds.length i = some j ∧ q = .ix j ∧ ds[j]? = some y := by
  cases k with
  | lst =>
    simp only [step1] at h
    split at h
    · rename_i i e
      split at h
      · rename_i j ej
        cases ey : ds[j]? with
        | none => simp [ey] at h
        | some z =>
          simp only [ey, Option.map_some, Option.some.injEq, Prod.mk.injEq] at h
          exact ⟨.inl rfl, i, j, e, ej, h.1.symm, by rw [ey, h.2]⟩
      · cases h
    · cases h
  | tup =>
    simp only [step1] at h
    split at h
    · rename_i i e
      split at h
      · rename_i j ej
        cases ey : ds[j]? with
        | none => simp [ey] at h
        | some z =>
          simp only [ey, Option.map_some, Option.some.injEq, Prod.mk.injEq] at h
          exact ⟨.inr rfl, i, j, e, ej, h.1.symm, by rw [ey, h.2]⟩
      · cases h
    · cases h
  | _ => simp [step1] at h
theorem l_ix {i : Nat} {ps : List Stp} {s : SF} (ha : PEl X cl a i ps) (hb : PEs X cl b s) (hs : PlainIx b) : PEl X cl (.Subscript a b pos) i (ps ++ [.ix s]) :=
  pe_imp (pe_ix ix_seq ha hb hs) fun σ H Q ⟨φ, fd, fv, F, m, lv, r, hi, p, y, w, e, va, q⟩ => by
    rw [resolve_app] at e
    cases e1 : resolve m (rd m i) ps with
    | none => rw [e1] at e; cases e
    | some z =>
      obtain ⟨p1, x1⟩ := z
      rw [e1] at e
      simp only [Option.bind_some] at e
      cases e2 : step1 m x1 (.ix s) with
      | none => rw [e2] at e; cases e
      | some z =>
        obtain ⟨q1, y1⟩ := z
        rw [e2] at e
        simp only [Option.map_some, Option.some.injEq, Prod.mk.injEq] at e
        obtain ⟨rfl, rfl⟩ := e
        obtain ⟨y2, u, g1, g2, g3⟩ := va.app
        have ey : x1 = y2 := Option.some.inj ((resolve_get e1).symm.trans g1)
        subst ey
        refine ⟨φ, fd, fv, F, m, lv, r, hi, p1, x1, u, e1, g2, φ, fd, fv, F, m, lv, r, ?_⟩
        obtain ⟨o, k, ds, a', vs, j, yy, v1, rfl, rfl, h1, h2, h3, h4, h5, h6⟩ := g3
        have h6 : w = v1 := h6
        subst h6
        obtain ⟨hk, i', j', es, ej, rfl, eyy⟩ := kIx e2
        refine ⟨_, es, rfl, fun v hv => ?_⟩
        have hv : v = .int i' := hv
        subst hv
        have hat : atI vs i' = some w := by
          have hjj : j = j' := by
            rcases hk with rfl | rfl <;> (simp only [kix] at h2; split at h2 <;> simp at h2; exact h2.symm)
          subst hjj
          unfold atI; rw [h5, ej]; exact h4
        rcases hk with rfl | rfl
        · exact .inl ⟨a', vs, i', w, rfl, rfl, h1, hat, q⟩
        · exact .inr (.inl ⟨a', vs, i', w, rfl, rfl, h1, hat, q⟩)
theorem l_fld {i : Nat} {cs : List Nat} {ps : List Stp} {f : Str} (ha : PEl X cl a i ps) (hc : ∀ c, cs.contains c = true → Cls X.K (cl c) ∧ NoAttr X.K (cl c) f) (hb : attributeBase a f X.env (eval a X.env) = eval a X.env) : PEl X cl (.Attribute a f pos) i (ps ++ [.fld cs f]) :=
  pe_imp (pe_fld ha hb) fun σ H Q ⟨φ, fd, fv, F, m, lv, r, hi, p, y, w, e, va, q⟩ => by
    rw [resolve_app] at e
    cases e1 : resolve m (rd m i) ps with
    | none => rw [e1] at e; cases e
    | some z =>
      obtain ⟨p1, x1⟩ := z
      rw [e1] at e
      simp only [Option.bind_some] at e
      cases e2 : step1 m x1 (.fld cs f) with
      | none => rw [e2] at e; cases e
      | some z =>
        obtain ⟨q1, y1⟩ := z
        rw [e2] at e
        simp only [Option.map_some, Option.some.injEq, Prod.mk.injEq] at e
        obtain ⟨rfl, rfl⟩ := e
        obtain ⟨y2, u, g1, g2, g3⟩ := va.app
        have ey : x1 = y2 := Option.some.inj ((resolve_get e1).symm.trans g1)
        subst ey
        refine ⟨φ, fd, fv, F, m, lv, r, hi, p1, x1, u, e1, g2, ?_⟩
        obtain ⟨o, k, ds, a', vs, j, yy, v1, rfl, rfl, h1, h2, h3, h4, h5, h6⟩ := g3
        have h6 : w = v1 := h6
        subst h6
        cases k with
        | ins c ns =>
          simp only [step1] at e2
          split at e2
          case isFalse => cases e2
          rename_i hcs
          split at e2
          · rename_i j2 ej
            cases ey : ds[j2]? with
            | none => simp [ey] at e2
            | some z =>
              simp only [ey, Option.map_some, Option.some.injEq, Prod.mk.injEq] at e2
              obtain ⟨rfl, rfl⟩ := e2
              obtain ⟨dx, hd, hl⟩ := h1
              have : j = j2 := by
                have : kix ds.length (.ins c ns) (.fld f) = some j2 := ej
                rw [this] at h2; exact (Option.some.inj h2).symm
              subst this
              exact ⟨a', cl c, dx, _, w, rfl, hd, (hc c hcs).1, (hc c hcs).2, lookup_zip ej h4 hl, q⟩
          · cases e2
        | _ => simp [step1] at e2
/-- a scalar at a place -/
def sLd (i : Nat) (ps : List Stp) : SF := fun m => match resolve m (rd m i) ps with
  | some (_, x) => toSc x
  | none => none
theorem toSc_some {x d : D} (h : toSc x = some d) : x = d ∧ isSc d = true := by
  unfold toSc at h
  split at h
  · rename_i q; cases h; exact ⟨rfl, q⟩
  · cases h
theorem Rep.scal {K : PySem.W.Frag} {F H : Hp} {d : D} {v : V} {fp : List Addr} (r : Rep K cl F H d v fp) (h : isSc d = true) : Scal d v := by
  cases d <;> first | exact r.1 | cases h
theorem s_ld {i : Nat} {ps : List Stp} (ha : PEl X cl a i ps) : PEs X cl a (sLd i ps) :=
  pe_imp ha fun σ H Q ⟨φ, fd, fv, F, m, lv, r, d, ed, hd, q⟩ => by
    unfold sLd at ed
    cases er : resolve m (rd m i) ps with
    | none => simp only [er] at ed; cases ed
    | some z =>
      obtain ⟨p, x⟩ := z
      simp only [er] at ed
      obtain ⟨rfl, _⟩ := toSc_some ed
      have hi : isAbs (rd m i) = false := by
        cases hm : rd m i with
        | abs =>
          have := resolve_get er
          rw [hm] at this
          cases p with
          | nil => simp [dget] at this; subst this; cases hd
          | cons _ _ => simp [dget] at this
        | _ => rfl
      obtain ⟨q1, q2⟩ := r.at hi
      obtain ⟨w, fx, va, rx⟩ := r.wf.peek (root φ m i) (p := p) (x := x) (by rw [q1]; exact resolve_get er)
      rw [q1] at va
      exact ⟨φ, fd, fv, F, m, lv, r, hi, p, x, w, er, va, q w (rx.scal hd)⟩
/-! ### scalar operations -/
def OpP (r : R2) (op : D → D → Option D) : Prop := ∀ (x y z : D) (vx vy : V) (H : Hp) (Q : VK), op x y = some z → Scal x vx → Scal y vy → isSc z = true ∧ ((∀ v, Scal z v → Q v H) → r vx vy H Q)
def UnP (r : V → Hp → VK → Prop) (op : D → Option D) : Prop := ∀ (x z : D) (vx : V) (H : Hp) (Q : VK), op x = some z → Scal x vx → isSc z = true ∧ ((∀ v, Scal z v → Q v H) → r vx H Q)
def sC (d : D) : SF := fun _ => some d
def sBin (op : D → D → Option D) (s t : SF) : SF := fun m => (s m).bind fun x => (t m).bind fun y => op x y
def sUn (op : D → Option D) (s : SF) : SF := fun m => (s m).bind op
theorem s_const {d : D} {v : V} (h : PE X e (tC v)) (s : Scal d v) (hs : isSc d = true) : PEs X cl e (sC d) := pe_imp h fun σ H Q ⟨φ, fd, fv, F, m, lv, r, d', e, hd, q⟩ => by
  cases e
  exact q v s
theorem s_int {i : Int} {j : Nat} : PEs X cl (.Constant (.int i) j pos) (sC (.int i)) := s_const pe_int rfl rfl
theorem s_str {s : Str} {j : Nat} : PEs X cl (.Constant (.str s) j pos) (sC (.str s)) := s_const pe_str rfl rfl
theorem s_bl {s : Bool} {j : Nat} : PEs X cl (.Constant (.bool s) j pos) (sC (.bl s)) := s_const pe_bl rfl rfl
theorem s_non {j : Nat} : PEs X cl (.Constant .none j pos) (sC .non) := s_const pe_non rfl rfl
theorem sBin_some {op : D → D → Option D} {s t : SF} {m : M} {z : D} (h : sBin op s t m = some z) : ∃ x y, s m = some x ∧ t m = some y ∧ op x y = some z := by
  unfold sBin at h
  cases hx : s m with
  | none => rw [hx] at h; cases h
  | some x =>
    cases hy : t m with
    | none => rw [hx, hy] at h; cases h
    | some y => rw [hx, hy] at h; exact ⟨x, y, rfl, rfl, h⟩
/-- two scalars in a row -/
theorem tP2 {K : PySem.W.Frag} {s t : SF} {op : D → D → Option D} {r2 : R2} (hs : OpP r2 op) (hsc : ∀ x y z, op x y = some z → isSc x = true ∧ isSc y = true) {σ : St} {H : Hp} {Q : VK} (h : tP K cl (sBin op s t) σ H Q) : tOp r2 (tP K cl s) (tP K cl t) σ H Q := by
  obtain ⟨φ, fd, fv, F, m, lv, r, d, e, hd, q⟩ := h
  obtain ⟨x, y, ex, ey, ez⟩ := sBin_some e
  obtain ⟨h1, h2⟩ := hsc x y d ez
  exact ⟨φ, fd, fv, F, m, lv, r, x, ex, h1, fun vx hx => ⟨φ, fd, fv, F, m, lv, r, y, ey, h2, fun vy hy => (hs x y d vx vy H Q ez hx hy).2 q⟩⟩
theorem s_bin {op : Operator} {r : R2} {o : D → D → Option D} {s t : SF} (ho : OpR X (binaryOp op) r) (hs : OpP r o) (hsc : ∀ x y z, o x y = some z → isSc x = true ∧ isSc y = true) (ha : PEs X cl a s) (hb : PEs X cl b t) : PEs X cl (.BinOp a op b pos) (sBin o s t) :=
  pe_imp (pe_op ho ha hb) fun σ H Q h => tP2 hs hsc h
theorem s_cmp {op : CmpOp} {r : R2} {o : D → D → Option D} {s t : SF} (ho : OpR X (compareOp op) r) (hs : OpP r o) (hsc : ∀ x y z, o x y = some z → isSc x = true ∧ isSc y = true) (ha : PEs X cl a s) (hb : PEs X cl b t) (hm : behindInMarks op b = false) : PEs X cl (.Compare a [op] [b] pos) (sBin o s t) :=
  pe_imp (pe_cmpR ho ha hb hm) fun σ H Q h => tP2 hs hsc h
theorem s_ix {r : R2} {o : D → D → Option D} {s t : SF} (ho : IxR X r) (hs : OpP r o) (hsc : ∀ x y z, o x y = some z → isSc x = true ∧ isSc y = true) (ha : PEs X cl a s) (hb : PEs X cl b t) (hp : PlainIx b) : PEs X cl (.Subscript a b pos) (sBin o s t) :=
  pe_imp (pe_ix ho ha hb hp) fun σ H Q h => tP2 hs hsc h
theorem s_un {op : UnaryOp} {r : V → Hp → VK → Prop} {o : D → Option D} {s : SF} (ho : UnR X (unaryOp op) r) (hs : UnP r o) (hsc : ∀ x z, o x = some z → isSc x = true) (ha : PEs X cl a s) : PEs X cl (.UnaryOp op a pos) (sUn o s) :=
  pe_imp (pe_un ho ha) fun σ H Q ⟨φ, fd, fv, F, m, lv, r, d, e, hd, q⟩ => by
    unfold sUn at e
    cases hx : s m with
    | none => rw [hx] at e; cases e
    | some x =>
      rw [hx] at e
      have e : o x = some d := e
      exact ⟨φ, fd, fv, F, m, lv, r, x, hx, hsc x d e, fun vx hv => (hs x d vx H Q e hv).2 q⟩
/-! ### tests -/
def bOf : D → Option Bool
  | .bl b => some b
  | _ => none
def sT (s : SF) : M → Option Bool := fun m => (s m).bind bOf
theorem bOf_some {d : D} {b : Bool} (h : bOf d = some b) : d = .bl b := by cases d <;> first | (cases h; rfl) | cases h
/-- a bool that is reckoned, as a test -/
theorem t_s {s : SF} (h : PEs X cl e s) (he : ∀ whole, isTrue e X.env whole = (do let v ← whole; standAt e.pos; holding [v] (truthy v))) : PTs' X cl e (sT s) :=
  pt_imp (pt_val h he) fun σ H Q ⟨φ, fd, fv, F, m, lv, r, b, eb, q⟩ => by
    unfold sT at eb
    cases hs : s m with
    | none => rw [hs] at eb; cases eb
    | some d =>
      rw [hs] at eb
      have ed := bOf_some (show bOf d = some b from eb)
      subst ed
      exact ⟨φ, fd, fv, F, m, lv, r, _, hs, rfl, fun v hv => ⟨b, hv, q⟩⟩
theorem t_cmp {op : CmpOp} {r : R2} {o : D → D → Option D} {s t : SF} (ho : OpR X (compareOp op) r) (hs : OpP r o) (hsc : ∀ x y z, o x y = some z → isSc x = true ∧ isSc y = true) (ha : PEs X cl a s) (hb : PEs X cl b t) (hm : behindInMarks op b = false) : PTs' X cl (.Compare a [op] [b] pos) (sT (sBin o s t)) :=
  pt_imp (pt_cmpR ho ha hb hm) fun σ H Q ⟨φ, fd, fv, F, m, lv, rl, k, ek, q⟩ => by
    unfold sT at ek
    cases hs' : sBin o s t m with
    | none => rw [hs'] at ek; cases ek
    | some d =>
      rw [hs'] at ek
      have ed := bOf_some (show bOf d = some k from ek)
      subst ed
      exact tP2 hs hsc ⟨φ, fd, fv, F, m, lv, rl, _, hs', rfl, fun v hv => ⟨k, hv, q⟩⟩
def sChn (o o' : D → D → Option D) (s t u : SF) : SF := fun m => (s m).bind fun x => (t m).bind fun y => (o x y).bind fun z => match z with
  | .bl true => (u m).bind fun w => o' y w
  | .bl false => some (.bl false)
  | _ => none
theorem chn_of {K : PySem.W.Frag} {o o' : D → D → Option D} {r r' : R2} {s t u : SF} (h : OpP r o) (hc : ∀ x y z, o x y = some z → isSc x = true ∧ isSc y = true) (h' : OpP r' o') (hc' : ∀ x y z, o' x y = some z → isSc x = true ∧ isSc y = true) {σ : St} {H : Hp} {Q : VK}
    (q : tP K cl (sChn o o' s t u) σ H Q) : tChain r r' (tP K cl s) (tP K cl t) (tP K cl u) σ H Q := by
  obtain ⟨φ, fd, fv, F, m, lv, rl, d, e, hd, q⟩ := q
  unfold sChn at e
  cases hx : s m with
  | none => rw [hx] at e; cases e
  | some x =>
    cases hy : t m with
    | none => rw [hx, hy] at e; cases e
    | some y =>
      rw [hx, hy] at e
      simp only [Option.bind_some] at e
      cases hz : o x y with
      | none => rw [hz] at e; cases e
      | some z =>
        rw [hz] at e
        simp only [Option.bind_some] at e
        obtain ⟨c1, c2⟩ := hc x y z hz
        refine ⟨φ, fd, fv, F, m, lv, rl, x, hx, c1, fun vx hvx => ⟨φ, fd, fv, F, m, lv, rl, y, hy, c2, fun vy hvy => (h x y z vx vy H _ hz hvx hvy).2 fun vz hvz => ?_⟩⟩
        cases z with
        | bl k =>
          refine ⟨k, hvz, ?_⟩
          cases k with
          | false =>
            simp only at e
            cases e
            rw [if_neg (by decide)]
            exact q _ rfl
          | true =>
            simp only at e
            rw [if_pos rfl]
            cases hw : u m with
            | none => rw [hw] at e; cases e
            | some w =>
              rw [hw] at e
              have e : o' y w = some d := e
              obtain ⟨_, c3⟩ := hc' y w d e
              exact ⟨φ, fd, fv, F, m, lv, rl, w, hw, c3, fun vw hvw => (h' y w d vy vw H Q e hvy hvw).2 q⟩
        | _ => simp at e
theorem s_chn {op op' : CmpOp} {r r' : R2} {o o' : D → D → Option D} {s t u : SF} (ho : OpR X (compareOp op) r) (hs : OpP r o) (hsc : ∀ x y z, o x y = some z → isSc x = true ∧ isSc y = true) (ho' : OpR X (compareOp op') r') (hs' : OpP r' o') (hsc' : ∀ x y z, o' x y = some z → isSc x = true ∧ isSc y = true)
    (ha : PEs X cl a s) (hb : PEs X cl b t) (hc : PEs X cl c u) (hm : lastMarks [op, op'] [b, c] = false) : PEs X cl (.Compare a [op, op'] [b, c] pos) (sChn o o' s t u) :=
  pe_imp (pe_chain ho ho' ha hb hc hm) fun σ H Q h => chn_of hs hsc hs' hsc' h
theorem t_chn {op op' : CmpOp} {r r' : R2} {o o' : D → D → Option D} {s t u : SF} (ho : OpR X (compareOp op) r) (hs : OpP r o) (hsc : ∀ x y z, o x y = some z → isSc x = true ∧ isSc y = true) (ho' : OpR X (compareOp op') r') (hs' : OpP r' o') (hsc' : ∀ x y z, o' x y = some z → isSc x = true ∧ isSc y = true)
    (ha : PEs X cl a s) (hb : PEs X cl b t) (hc : PEs X cl c u) (hm : lastMarks [op, op'] [b, c] = false) : PTs' X cl (.Compare a [op, op'] [b, c] pos) (sT (sChn o o' s t u)) :=
  pt_imp (pt_chain ho ho' ha hb hc hm) fun σ H Q ⟨φ, fd, fv, F, m, lv, rl, k, ek, q⟩ => by
    unfold sT at ek
    cases hs3 : sChn o o' s t u m with
    | none => rw [hs3] at ek; cases ek
    | some d =>
      rw [hs3] at ek
      have ed := bOf_some (show bOf d = some k from ek)
      subst ed
      exact chn_of hs hsc hs' hsc' ⟨φ, fd, fv, F, m, lv, rl, _, hs3, rfl, fun v hv => ⟨k, hv, q⟩⟩
end
end Rf
namespace Rf
open PySem L2
/-! operations on scalars -/
def oAdd : D → D → Option D
  | .int i, .int j => some (.int (i + j))
  | .str a, .str b => if a.length + b.length ≤ sizeLine then some (.str (a ++ b)) else none
  | _, _ => none
def oSub : D → D → Option D
  | .int i, .int j => some (.int (i - j))
  | _, _ => none
def oMul : D → D → Option D
  | .int i, .int j => if i.natAbs < 18446744073709551616 ∨ j.natAbs < 18446744073709551616 then some (.int (i * j)) else none
  | _, _ => none
def oDiv : D → D → Option D
  | .int i, .int j => if 0 < j ∧ j < 1073741824 then some (.int (i / j)) else if j ≠ 0 ∧ j.natAbs < 1073741824 then some (.int (i.fdiv j)) else none
  | _, _ => none
def oMod : D → D → Option D
  | .int i, .int j => if 0 < j then some (.int (i % j)) else if j ≠ 0 then some (.int (i.fmod j)) else none
  | _, _ => none
def oPow : D → D → Option D
  | .int i, .int j => if 0 ≤ j ∧ j ≤ 1000000 ∧ i.natAbs < 18446744073709551616 then some (.int (i ^ j.toNat)) else none
  | _, _ => none
def oShl : D → D → Option D
  | .int i, .int j => if 0 ≤ j ∧ j ≤ 1000000 ∧ i.natAbs < 18446744073709551616 then some (.int (i * 2 ^ j.toNat)) else none
  | _, _ => none
def oShr : D → D → Option D
  | .int i, .int j => if 0 ≤ j then some (.int (i / 2 ^ j.toNat)) else none
  | _, _ => none
def oAnd : D → D → Option D
  | .int i, .int j => some (.int (Builtin.bitAnd i j))
  | _, _ => none
def oOr : D → D → Option D
  | .int i, .int j => some (.int (Builtin.bitOr i j))
  | _, _ => none
def oNeg : D → Option D
  | .int i => some (.int (-i))
  | _ => none
/-- == of scalars -/
def eqS : D → D → Option Bool
  | .int i, .int j => some (decide (i = j))
  | .str a, .str b => some (decide (a = b))
  | .bl a, .bl b => some (decide (a = b))
  | .non, .non => some true
  | .non, .int _ => some false
  | .int _, .non => some false
  | .non, .str _ => some false
  | .str _, .non => some false
  | .non, .bl _ => some false
  | .bl _, .non => some false
  | .int _, .str _ => some false
  | .str _, .int _ => some false
  | .bl _, .str _ => some false
  | .str _, .bl _ => some false
  | _, _ => none
def oEq (x y : D) : Option D := (eqS x y).map .bl
def oNe (x y : D) : Option D := (eqS x y).map fun b => .bl (!b)
def oLt : D → D → Option D
  | .int i, .int j => some (.bl (decide (i < j)))
  | _, _ => none
def oLe : D → D → Option D
  | .int i, .int j => some (.bl (decide (i ≤ j)))
  | _, _ => none
def oGt : D → D → Option D
  | .int i, .int j => some (.bl (decide (j < i)))
  | _, _ => none
def oGe : D → D → Option D
  | .int i, .int j => some (.bl (decide (j ≤ i)))
  | _, _ => none
/-- a sign in a text -/
def oInS (neg : Bool) : D → D → Option D
  | .str z, .str w => match z.cps.toList with
    | [c] => some (.bl (if neg then !decide (c ∈ w.cps.toList) else decide (c ∈ w.cps.toList)))
    | _ => none
  | _, _ => none
def oIxS : D → D → Option D
  | .str z, .int i => if z.length ≤ sizeLine then (atI z.cps.toList i).map fun c => .str ⟨#[c]⟩ else none
  | _, _ => none
section
variable {X : Cx}
theorem p_add : OpP (fun x y H Q => rI0 (fun i j => .int (i + j)) x y H Q ∨ (∃ i j, x = .str i ∧ y = .str j ∧ i.length + j.length ≤ sizeLine ∧ Q (.str (i ++ j)) H)) oAdd := by
  intro x y z vx vy H Q e hx hy
  unfold oAdd at e
  split at e
  · cases e; cases hx; cases hy
    exact ⟨rfl, fun q => .inl ⟨_, _, rfl, rfl, q _ rfl⟩⟩
  · split at e
    · rename_i h; cases e; cases hx; cases hy
      exact ⟨rfl, fun q => .inr ⟨_, _, rfl, rfl, h, q _ rfl⟩⟩
    · cases e
  · cases e
theorem p_sub : OpP (rI0 fun i j => .int (i - j)) oSub := by
  intro x y z vx vy H Q e hx hy
  unfold oSub at e
  split at e
  · cases e; cases hx; cases hy
    exact ⟨rfl, fun q => ⟨_, _, rfl, rfl, q _ rfl⟩⟩
  · cases e
theorem p_mul : OpP (rI CMul fun i j => .int (i * j)) oMul := by
  intro x y z vx vy H Q e hx hy
  unfold oMul at e
  split at e
  · split at e
    · rename_i h; cases e; cases hx; cases hy
      exact ⟨rfl, fun q => ⟨_, _, rfl, rfl, by unfold CMul; omega, q _ rfl⟩⟩
    · cases e
  · cases e
theorem p_div : OpP (fun x y H Q => rI CDiv (fun i j => .int (i / j)) x y H Q ∨ rI CDivN (fun i j => .int (i.fdiv j)) x y H Q) oDiv := by
  intro x y z vx vy H Q e hx hy
  unfold oDiv at e
  split at e
  · split at e
    · rename_i h; cases e; cases hx; cases hy
      exact ⟨rfl, fun q => .inl ⟨_, _, rfl, rfl, h, q _ rfl⟩⟩
    · split at e
      · rename_i h; cases e; cases hx; cases hy
        exact ⟨rfl, fun q => .inr ⟨_, _, rfl, rfl, h, q _ rfl⟩⟩
      · cases e
  · cases e
theorem p_mod : OpP (fun x y H Q => rI (fun _ j => 0 < j) (fun i j => .int (i % j)) x y H Q ∨ rI (fun _ j => j ≠ 0) (fun i j => .int (i.fmod j)) x y H Q) oMod := by
  intro x y z vx vy H Q e hx hy
  unfold oMod at e
  split at e
  · split at e
    · rename_i h; cases e; cases hx; cases hy
      exact ⟨rfl, fun q => .inl ⟨_, _, rfl, rfl, h, q _ rfl⟩⟩
    · split at e
      · rename_i h; cases e; cases hx; cases hy
        exact ⟨rfl, fun q => .inr ⟨_, _, rfl, rfl, h, q _ rfl⟩⟩
      · cases e
  · cases e
theorem p_pow : OpP (rI CPow fun i j => .int (i ^ j.toNat)) oPow := by
  intro x y z vx vy H Q e hx hy
  unfold oPow at e
  split at e
  · split at e
    · rename_i h; cases e; cases hx; cases hy
      exact ⟨rfl, fun q => ⟨_, _, rfl, rfl, h, q _ rfl⟩⟩
    · cases e
  · cases e
theorem p_shl : OpP (rI CPow fun i j => .int (i * 2 ^ j.toNat)) oShl := by
  intro x y z vx vy H Q e hx hy
  unfold oShl at e
  split at e
  · split at e
    · rename_i h; cases e; cases hx; cases hy
      exact ⟨rfl, fun q => ⟨_, _, rfl, rfl, h, q _ rfl⟩⟩
    · cases e
  · cases e
theorem p_shr : OpP (rI (fun _ j => 0 ≤ j) fun i j => .int (i / 2 ^ j.toNat)) oShr := by
  intro x y z vx vy H Q e hx hy
  unfold oShr at e
  split at e
  · split at e
    · rename_i h; cases e; cases hx; cases hy
      exact ⟨rfl, fun q => ⟨_, _, rfl, rfl, h, q _ rfl⟩⟩
    · cases e
  · cases e
theorem p_and : OpP (rI0 fun i j => .int (Builtin.bitAnd i j)) oAnd := by
  intro x y z vx vy H Q e hx hy
  unfold oAnd at e
  split at e
  · cases e; cases hx; cases hy
    exact ⟨rfl, fun q => ⟨_, _, rfl, rfl, q _ rfl⟩⟩
  · cases e
theorem p_or : OpP (rI0 fun i j => .int (Builtin.bitOr i j)) oOr := by
  intro x y z vx vy H Q e hx hy
  unfold oOr at e
  split at e
  · cases e; cases hx; cases hy
    exact ⟨rfl, fun q => ⟨_, _, rfl, rfl, q _ rfl⟩⟩
  · cases e
theorem p_neg : UnP (rU fun i => .int (-i)) oNeg := by
  intro x z vx H Q e hx
  unfold oNeg at e
  split at e
  · cases e; cases hx
    exact ⟨rfl, fun q => ⟨_, rfl, q _ rfl⟩⟩
  · cases e
theorem eqS_v {x y : D} {b : Bool} {vx vy : V} (e : eqS x y = some b) (hx : Scal x vx) (hy : Scal y vy) : scal vx vy = true ∧ decide (vx = vy) = b := by
  unfold eqS at e
  split at e <;> first | (cases e; cases hx; cases hy; refine ⟨rfl, ?_⟩; simp; done) | (cases e; cases hx; cases hy; exact ⟨rfl, rfl⟩) | cases e
theorem p_eq : OpP rEq oEq := by
  intro x y z vx vy H Q e hx hy
  unfold oEq at e
  cases eb : eqS x y with
  | none => rw [eb] at e; cases e
  | some b =>
    rw [eb] at e; cases e
    obtain ⟨h1, h2⟩ := eqS_v eb hx hy
    exact ⟨rfl, fun q => ⟨h1, by rw [h2]; exact q _ rfl⟩⟩
theorem p_ne : OpP rNe oNe := by
  intro x y z vx vy H Q e hx hy
  unfold oNe at e
  cases eb : eqS x y with
  | none => rw [eb] at e; cases e
  | some b =>
    rw [eb] at e; cases e
    obtain ⟨h1, h2⟩ := eqS_v eb hx hy
    exact ⟨rfl, fun q => ⟨h1, by rw [h2]; exact q _ rfl⟩⟩
theorem p_lt : OpP (rI0 fun i j => .bl (decide (i < j))) oLt := by
  intro x y z vx vy H Q e hx hy
  unfold oLt at e
  split at e
  · cases e; cases hx; cases hy
    exact ⟨rfl, fun q => ⟨_, _, rfl, rfl, q _ rfl⟩⟩
  · cases e
theorem p_le : OpP (rI0 fun i j => .bl (decide (i ≤ j))) oLe := by
  intro x y z vx vy H Q e hx hy
  unfold oLe at e
  split at e
  · cases e; cases hx; cases hy
    exact ⟨rfl, fun q => ⟨_, _, rfl, rfl, q _ rfl⟩⟩
  · cases e
theorem p_gt : OpP (rI0 fun i j => .bl (decide (j < i))) oGt := by
  intro x y z vx vy H Q e hx hy
  unfold oGt at e
  split at e
  · cases e; cases hx; cases hy
    exact ⟨rfl, fun q => ⟨_, _, rfl, rfl, q _ rfl⟩⟩
  · cases e
theorem p_ge : OpP (rI0 fun i j => .bl (decide (j ≤ i))) oGe := by
  intro x y z vx vy H Q e hx hy
  unfold oGe at e
  split at e
  · cases e; cases hx; cases hy
    exact ⟨rfl, fun q => ⟨_, _, rfl, rfl, q _ rfl⟩⟩
  · cases e
theorem p_inS : OpP (fun x y H Q => ∃ (c : Nat) (z : Str), x = .str ⟨#[c]⟩ ∧ y = .str z ∧ Q (.bl (decide (c ∈ z.cps.toList))) H) (oInS false) := by
  intro x y z vx vy H Q e hx hy
  unfold oInS at e
  split at e
  · rename_i s w
    split at e
    · rename_i c ec
      cases e; cases hx; cases hy
      have es : s = ⟨#[c]⟩ := by
        obtain ⟨a⟩ := s
        have ec : a.toList = [c] := ec
        congr 1
        exact Array.ext' (by simpa using ec)
      refine ⟨rfl, fun q => ⟨c, w, by rw [es], rfl, q _ rfl⟩⟩
    · cases e
  · cases e
theorem p_niS : OpP (fun x y H Q => ∃ (c : Nat) (z : Str), x = .str ⟨#[c]⟩ ∧ y = .str z ∧ Q (.bl (!decide (c ∈ z.cps.toList))) H) (oInS true) := by
  intro x y z vx vy H Q e hx hy
  unfold oInS at e
  split at e
  · rename_i s w
    split at e
    · rename_i c ec
      cases e; cases hx; cases hy
      have es : s = ⟨#[c]⟩ := by
        obtain ⟨a⟩ := s
        have ec : a.toList = [c] := ec
        congr 1
        exact Array.ext' (by simpa using ec)
      refine ⟨rfl, fun q => ⟨c, w, by rw [es], rfl, q _ rfl⟩⟩
    · cases e
  · cases e
theorem p_ixS : OpP rIxS oIxS := by
  intro x y z vx vy H Q e hx hy
  unfold oIxS at e
  split at e
  · split at e
    · rename_i h
      cases ec : atI _ _ with
      | none => rw [ec] at e; cases e
      | some c =>
        rw [ec] at e; cases e; cases hx; cases hy
        exact ⟨rfl, fun q => ⟨_, _, c, rfl, rfl, h, ec, q _ rfl⟩⟩
    · cases e
  · cases e
end
/-- both are scalars -/
theorem sc_add {x y z : D} (h : oAdd x y = some z) : isSc x = true ∧ isSc y = true := by unfold oAdd at h; split at h <;> first | exact ⟨rfl, rfl⟩ | cases h
theorem sc_sub {x y z : D} (h : oSub x y = some z) : isSc x = true ∧ isSc y = true := by unfold oSub at h; split at h <;> first | exact ⟨rfl, rfl⟩ | cases h
theorem sc_mul {x y z : D} (h : oMul x y = some z) : isSc x = true ∧ isSc y = true := by unfold oMul at h; split at h <;> first | exact ⟨rfl, rfl⟩ | cases h
theorem sc_div {x y z : D} (h : oDiv x y = some z) : isSc x = true ∧ isSc y = true := by unfold oDiv at h; split at h <;> first | exact ⟨rfl, rfl⟩ | cases h
theorem sc_mod {x y z : D} (h : oMod x y = some z) : isSc x = true ∧ isSc y = true := by unfold oMod at h; split at h <;> first | exact ⟨rfl, rfl⟩ | cases h
theorem sc_pow {x y z : D} (h : oPow x y = some z) : isSc x = true ∧ isSc y = true := by unfold oPow at h; split at h <;> first | exact ⟨rfl, rfl⟩ | cases h
theorem sc_shl {x y z : D} (h : oShl x y = some z) : isSc x = true ∧ isSc y = true := by unfold oShl at h; split at h <;> first | exact ⟨rfl, rfl⟩ | cases h
theorem sc_shr {x y z : D} (h : oShr x y = some z) : isSc x = true ∧ isSc y = true := by unfold oShr at h; split at h <;> first | exact ⟨rfl, rfl⟩ | cases h
theorem sc_and {x y z : D} (h : oAnd x y = some z) : isSc x = true ∧ isSc y = true := by unfold oAnd at h; split at h <;> first | exact ⟨rfl, rfl⟩ | cases h
theorem sc_or {x y z : D} (h : oOr x y = some z) : isSc x = true ∧ isSc y = true := by unfold oOr at h; split at h <;> first | exact ⟨rfl, rfl⟩ | cases h
theorem sc_neg {x z : D} (h : oNeg x = some z) : isSc x = true := by unfold oNeg at h; split at h <;> first | rfl | cases h
theorem sc_eqS {x y : D} {b : Bool} (h : eqS x y = some b) : isSc x = true ∧ isSc y = true := by unfold eqS at h; split at h <;> first | exact ⟨rfl, rfl⟩ | cases h
theorem sc_eq {x y z : D} (h : oEq x y = some z) : isSc x = true ∧ isSc y = true := by
  unfold oEq at h
  cases e : eqS x y with
  | none => rw [e] at h; cases h
  | some b => exact sc_eqS e
theorem sc_ne {x y z : D} (h : oNe x y = some z) : isSc x = true ∧ isSc y = true := by
  unfold oNe at h
  cases e : eqS x y with
  | none => rw [e] at h; cases h
  | some b => exact sc_eqS e
theorem sc_lt {x y z : D} (h : oLt x y = some z) : isSc x = true ∧ isSc y = true := by unfold oLt at h; split at h <;> first | exact ⟨rfl, rfl⟩ | cases h
theorem sc_le {x y z : D} (h : oLe x y = some z) : isSc x = true ∧ isSc y = true := by unfold oLe at h; split at h <;> first | exact ⟨rfl, rfl⟩ | cases h
theorem sc_gt {x y z : D} (h : oGt x y = some z) : isSc x = true ∧ isSc y = true := by unfold oGt at h; split at h <;> first | exact ⟨rfl, rfl⟩ | cases h
theorem sc_ge {x y z : D} (h : oGe x y = some z) : isSc x = true ∧ isSc y = true := by unfold oGe at h; split at h <;> first | exact ⟨rfl, rfl⟩ | cases h
theorem sc_inS {n : Bool} {x y z : D} (h : oInS n x y = some z) : isSc x = true ∧ isSc y = true := by unfold oInS at h; split at h <;> first | exact ⟨rfl, rfl⟩ | cases h
theorem sc_ixS {x y z : D} (h : oIxS x y = some z) : isSc x = true ∧ isSc y = true := by unfold oIxS at h; split at h <;> first | exact ⟨rfl, rfl⟩ | cases h
section
variable {X : Cx} {cl : Nat → Addr} {a b : Expr} {s t : SF} {pos : Pos}
theorem s_add (ha : PEs X cl a s) (hb : PEs X cl b t) : PEs X cl (.BinOp a .Add b pos) (sBin oAdd s t) := s_bin (op_add.or op_add_str) p_add (fun _ _ _ h => sc_add h) ha hb
theorem s_sub (ha : PEs X cl a s) (hb : PEs X cl b t) : PEs X cl (.BinOp a .Sub b pos) (sBin oSub s t) := s_bin op_sub p_sub (fun _ _ _ h => sc_sub h) ha hb
theorem s_mul (ha : PEs X cl a s) (hb : PEs X cl b t) : PEs X cl (.BinOp a .Mult b pos) (sBin oMul s t) := s_bin op_mul p_mul (fun _ _ _ h => sc_mul h) ha hb
theorem s_div (ha : PEs X cl a s) (hb : PEs X cl b t) : PEs X cl (.BinOp a .FloorDiv b pos) (sBin oDiv s t) := s_bin (op_fdiv.or op_fdivN) p_div (fun _ _ _ h => sc_div h) ha hb
theorem s_mod (ha : PEs X cl a s) (hb : PEs X cl b t) : PEs X cl (.BinOp a .Mod b pos) (sBin oMod s t) := s_bin (op_mod.or op_modN) p_mod (fun _ _ _ h => sc_mod h) ha hb
theorem s_pow (ha : PEs X cl a s) (hb : PEs X cl b t) : PEs X cl (.BinOp a .Pow b pos) (sBin oPow s t) := s_bin op_pow p_pow (fun _ _ _ h => sc_pow h) ha hb
theorem s_shl (ha : PEs X cl a s) (hb : PEs X cl b t) : PEs X cl (.BinOp a .LShift b pos) (sBin oShl s t) := s_bin op_shl p_shl (fun _ _ _ h => sc_shl h) ha hb
theorem s_shr (ha : PEs X cl a s) (hb : PEs X cl b t) : PEs X cl (.BinOp a .RShift b pos) (sBin oShr s t) := s_bin op_shr p_shr (fun _ _ _ h => sc_shr h) ha hb
theorem s_and (ha : PEs X cl a s) (hb : PEs X cl b t) : PEs X cl (.BinOp a .BitAnd b pos) (sBin oAnd s t) := s_bin op_and p_and (fun _ _ _ h => sc_and h) ha hb
theorem s_or (ha : PEs X cl a s) (hb : PEs X cl b t) : PEs X cl (.BinOp a .BitOr b pos) (sBin oOr s t) := s_bin op_or p_or (fun _ _ _ h => sc_or h) ha hb
theorem s_neg (ha : PEs X cl a s) : PEs X cl (.UnaryOp .USub a pos) (sUn oNeg s) := s_un un_neg p_neg (fun _ _ h => sc_neg h) ha
theorem s_ixS (ha : PEs X cl a s) (hb : PEs X cl b t) (hp : PlainIx b) : PEs X cl (.Subscript a b pos) (sBin oIxS s t) := s_ix ix_str p_ixS (fun _ _ _ h => sc_ixS h) ha hb hp
/-- a comparison's rule -/
structure CmpR (X : Cx) (op : CmpOp) (o : D → D → Option D) : Prop where
  h : ∃ r, OpR X (compareOp op) r ∧ OpP r o
  sc : ∀ x y z, o x y = some z → isSc x = true ∧ isSc y = true
theorem c_eq : CmpR X .Eq oEq := ⟨⟨_, op_eq, p_eq⟩, fun _ _ _ h => sc_eq h⟩
theorem c_ne : CmpR X .NotEq oNe := ⟨⟨_, op_ne, p_ne⟩, fun _ _ _ h => sc_ne h⟩
theorem c_lt : CmpR X .Lt oLt := ⟨⟨_, op_lt, p_lt⟩, fun _ _ _ h => sc_lt h⟩
theorem c_le : CmpR X .LtE oLe := ⟨⟨_, op_le, p_le⟩, fun _ _ _ h => sc_le h⟩
theorem c_gt : CmpR X .Gt oGt := ⟨⟨_, op_gt, p_gt⟩, fun _ _ _ h => sc_gt h⟩
theorem c_ge : CmpR X .GtE oGe := ⟨⟨_, op_ge, p_ge⟩, fun _ _ _ h => sc_ge h⟩
theorem c_inS : CmpR X .In (oInS false) := ⟨⟨_, op_in_sign, p_inS⟩, fun _ _ _ h => sc_inS h⟩
theorem c_niS : CmpR X .NotIn (oInS true) := ⟨⟨_, op_notIn_sign, p_niS⟩, fun _ _ _ h => sc_inS h⟩
theorem s_c {op : CmpOp} {o : D → D → Option D} (h : CmpR X op o) (ha : PEs X cl a s) (hb : PEs X cl b t) (hm : behindInMarks op b = false) : PEs X cl (.Compare a [op] [b] pos) (sBin o s t) := by
  obtain ⟨⟨r, h1, h2⟩, h3⟩ := h
  exact s_cmp h1 h2 h3 ha hb hm
theorem t_c {op : CmpOp} {o : D → D → Option D} (h : CmpR X op o) (ha : PEs X cl a s) (hb : PEs X cl b t) (hm : behindInMarks op b = false) : PTs' X cl (.Compare a [op] [b] pos) (sT (sBin o s t)) := by
  obtain ⟨⟨r, h1, h2⟩, h3⟩ := h
  exact t_cmp h1 h2 h3 ha hb hm
theorem s_cc {op op' : CmpOp} {o o' : D → D → Option D} {c : Expr} {u : SF} (h : CmpR X op o) (h' : CmpR X op' o') (ha : PEs X cl a s) (hb : PEs X cl b t) (hc : PEs X cl c u) (hm : lastMarks [op, op'] [b, c] = false) : PEs X cl (.Compare a [op, op'] [b, c] pos) (sChn o o' s t u) := by
  obtain ⟨⟨r, h1, h2⟩, h3⟩ := h
  obtain ⟨⟨r', h1', h2'⟩, h3'⟩ := h'
  exact s_chn h1 h2 h3 h1' h2' h3' ha hb hc hm
theorem t_cc {op op' : CmpOp} {o o' : D → D → Option D} {c : Expr} {u : SF} (h : CmpR X op o) (h' : CmpR X op' o') (ha : PEs X cl a s) (hb : PEs X cl b t) (hc : PEs X cl c u) (hm : lastMarks [op, op'] [b, c] = false) : PTs' X cl (.Compare a [op, op'] [b, c] pos) (sT (sChn o o' s t u)) := by
  obtain ⟨⟨r, h1, h2⟩, h3⟩ := h
  obtain ⟨⟨r', h1', h2'⟩, h3'⟩ := h'
  exact t_chn h1 h2 h3 h1' h2' h3' ha hb hc hm
/-- is None, of a scalar -/
def oIsN (neg : Bool) : D → Option D
  | .non => some (.bl (!neg))
  | .int _ => some (.bl neg)
  | .bl _ => some (.bl neg)
  | .str _ => some (.bl neg)
  | _ => none
/-! ### tests made of tests -/
def sAndT (s t : M → Option Bool) : M → Option Bool := fun m => (s m).bind fun b => if b then t m else some false
def sOrT (s t : M → Option Bool) : M → Option Bool := fun m => (s m).bind fun b => if b then some true else t m
def sNotT (s : M → Option Bool) : M → Option Bool := fun m => (s m).map (!·)
end
end Rf
namespace Rf
open PySem L2
section
variable {K : PySem.W.Frag} {cl : Nat → Addr} {xc : XC} {W : WX} {F H : Hp} {ι φ : Type} {σ : St} {rd : ι → D} {rv : ι → V}
theorem WF.topRep {d : D} {v : V} (w : WF K cl F H (psh d rd) (psh v rv)) : ∃ f, Rep K cl F H d v f := by
  obtain ⟨fp, h1, _⟩ := w.fp
  exact ⟨_, h1 none⟩
theorem WF.top2Rep {d e : D} {v u : V} (w : WF K cl F H (psh d (psh e rd)) (psh v (psh u rv))) : ∃ f, Rep K cl F H e u f := by
  obtain ⟨fp, h1, _⟩ := w.fp
  exact ⟨_, h1 (some none)⟩
/-- the container on top is opened: what is in it is shared from then on, the container itself let go -/
theorem WF.openTop {o : Ow} {k : Kd} {xs : List D} {v : V} (w : WF K cl F H (psh (.obj o k xs) rd) (psh v rv)) : ∃ F' a vs, v = .ref a ∧ Ex F F' ∧ WF K cl F' H rd rv ∧ Reps K cl F' H (frzs xs) vs [] ∧ kRd K cl H a k vs ∧ (o ≠ .con → ∃ u, H a = some u ∧ kHO cl k vs u) := by
  obtain ⟨F', w', r, e⟩ := w.frzTop
  unfold Rf.frz at r
  cases o with
  | own =>
    rw [if_pos rfl] at r
    obtain ⟨a, vs, fps, rfl, n, rs⟩ := r
    have n' := n.rd w'.ex
    obtain ⟨⟨u, h1, h2⟩, _, rfl⟩ := n
    exact ⟨F', a, vs, rfl, e, w'.pop, rs, n', fun _ => ⟨u, w'.ex _ _ h1, h2⟩⟩
  | shr =>
    rw [if_neg (by decide)] at r
    obtain ⟨a, vs, fps, rfl, n, rs⟩ := r
    have n' := n.rd w'.ex
    obtain ⟨⟨u, h1, h2⟩, _, rfl⟩ := n
    exact ⟨F', a, vs, rfl, e, w'.pop, Reps.frz xs rs (Ex.refl _) fun b hb => by simp at hb, n', fun _ => ⟨u, w'.ex _ _ h1, h2⟩⟩
  | con =>
    rw [if_neg (by decide)] at r
    obtain ⟨a, vs, fps, rfl, n, rs⟩ := r
    have n' := n.rd w'.ex
    obtain ⟨_, _, rfl⟩ := n
    exact ⟨F', a, vs, rfl, e, w'.pop, Reps.frz xs rs (Ex.refl _) fun b hb => by simp at hb, n', fun h => absurd rfl h⟩
/-- a new container of shared things -/
theorem WF.newSh {ds : List D} {vs : List V} {k : Kd} {u : HO} {p : Addr} (w : WF K cl F H rd rv) (r : Reps K cl F H ds vs []) (hp : H p = none) (hu : kHO cl k vs u) : WF K cl F (upd H p u) (psh (.obj .own k ds) rd) (psh (.ref p) rv) := by
  have w2 := w.grow (ex_new (u := u) hp)
  obtain ⟨fp, h1, h2, h3⟩ := w.fp
  have np : ∀ r, p ∉ fp r := fun r hr => by
    obtain ⟨_, o, q⟩ := Rep.fp _ (h1 r) p hr
    rw [hp] at q; cases q
  refine ⟨w2.ex, fun r => match r with | none => [p] | some r => fp r, fun r => ?_, fun r => ?_, fun r r' b hb hb' => ?_⟩
  · cases r with
    | none => exact ⟨p, vs, [], rfl, ⟨w.ex.no hp, ⟨u, upd_same, hu⟩, rfl⟩, Reps.mono ds r (Ex.refl _) fun b hb => by simp at hb⟩
    | some r => exact Rep.mono _ (h1 r) (Ex.refl F) fun b hb => ⟨(Rep.fp _ (h1 r) b hb).1, upd_ne fun e => np r (e ▸ hb)⟩
  · cases r with
    | none => simp
    | some r => exact h2 r
  · cases r with
    | none =>
      cases r' with
      | none => rfl
      | some r' => simp at hb; subst hb; exact absurd hb' (np r')
    | some r =>
      cases r' with
      | none => simp at hb'; subst hb'; exact absurd hb (np r)
      | some r' => rw [h3 r r' b hb hb']
theorem Reps.drop : ∀ (n : Nat) {ds : List D} {vs : List V}, Reps K cl F H ds vs [] → Reps K cl F H (ds.drop n) (vs.drop n) []
  | 0, _, _, r => r
  | n + 1, [], _, r => by obtain ⟨rfl, _⟩ := r; exact ⟨rfl, rfl⟩
  | n + 1, d :: ds, _, r => by
    obtain ⟨v, vr, f1, f2, rfl, e, r1, r2⟩ := r
    obtain ⟨rfl, rfl⟩ := List.append_eq_nil_iff.mp e.symm
    exact Reps.drop n r2
theorem Reps.take : ∀ (n : Nat) {ds : List D} {vs : List V}, Reps K cl F H ds vs [] → Reps K cl F H (ds.take n) (vs.take n) []
  | 0, _, _, r => ⟨rfl, rfl⟩
  | n + 1, [], _, r => by obtain ⟨rfl, _⟩ := r; exact ⟨rfl, rfl⟩
  | n + 1, d :: ds, _, r => by
    obtain ⟨v, vr, f1, f2, rfl, e, r1, r2⟩ := r
    obtain ⟨rfl, rfl⟩ := List.append_eq_nil_iff.mp e.symm
    exact ⟨v, _, [], [], rfl, rfl, r1, Reps.take n r2⟩
theorem Reps.at0 {ds : List D} {vs : List V} (r : Reps K cl F H ds vs []) {i : Nat} {d : D} (h : ds[i]? = some d) : ∃ v, vs[i]? = some v ∧ Rep K cl F H d v [] := by
  obtain ⟨v, f, h1, h2, h3⟩ := r.get h
  have : f = [] := List.eq_nil_iff_forall_not_mem.mpr fun b hb => by simpa using h3 b hb
  subst this
  exact ⟨v, h1, h2⟩
theorem Reps.app0 {ds es : List D} {vs ws : List V} (r : Reps K cl F H ds vs []) (s : Reps K cl F H es ws []) : Reps K cl F H (ds ++ es) (vs ++ ws) [] := r.app s
theorem Reps.mono0 {F' H' : Hp} {ds : List D} {vs : List V} (r : Reps K cl F H ds vs []) (e : Ex F F') : Reps K cl F' H' ds vs [] := Reps.mono ds r e fun b hb => by simp at hb
theorem Reps.rev : ∀ {ds : List D} {vs : List V}, Reps K cl F H ds vs [] → Reps K cl F H ds.reverse vs.reverse []
  | [], _, r => by obtain ⟨rfl, _⟩ := r; exact ⟨rfl, rfl⟩
  | d :: ds, _, r => by
    obtain ⟨v, vr, f1, f2, rfl, e, r1, r2⟩ := r
    obtain ⟨rfl, rfl⟩ := List.append_eq_nil_iff.mp e.symm
    rw [List.reverse_cons, List.reverse_cons]
    exact (Reps.rev r2).app0 (Reps.one r1)
theorem Reps.flat : ∀ (n : Nat) {ds : List D} {vs : List V}, Reps K cl F H ds vs [] → Reps K cl F H (List.replicate n ds).flatten (List.replicate n vs).flatten []
  | 0, _, _, r => ⟨rfl, rfl⟩
  | n + 1, ds, vs, r => by
    rw [List.replicate_succ, List.replicate_succ, List.flatten_cons, List.flatten_cons]
    exact r.app0 (Reps.flat n r)
end
def szD (n : Nat) (o : Option D) : Option D := if n ≤ sizeLine then o else none
/-- + of lists -/
def oCat : D → D → Option D
  | .obj o .lst xs, .obj o' .lst ys => if o ≠ .con ∧ o' ≠ .con ∧ xs.length + ys.length ≤ sizeLine then some (.obj .own .lst (frzs xs ++ frzs ys)) else none
  | _, _ => none
/-- a list times an int -/
def oRep : D → D → Option D
  | .obj o .lst xs, .int k => if o ≠ .con ∧ k.natAbs < 9223372036854775808 ∧ xs.length * k.toNat ≤ sizeLine then some (.obj .own .lst (List.replicate k.toNat (frzs xs)).flatten) else none
  | _, _ => none
def oCatT : D → D → Option D
  | .obj _ .tup (x :: xs), .obj _ .tup (y :: ys) => if xs.length + 1 + (ys.length + 1) ≤ sizeLine then some (.obj .own .tup (frzs (x :: xs) ++ frzs (y :: ys))) else none
  | _, _ => none
/-- a list's, a tuple's item -/
def oIx : D → D → Option D
  | .obj _ .lst xs, .int i => (atI (frzs xs) i)
  | .obj _ .tup xs, .int i => (atI (frzs xs) i)
  | _, _ => none
theorem frzs_len : ∀ xs : List D, (frzs xs).length = xs.length
  | [] => rfl
  | x :: xs => by simp [frzs, frzs_len xs]
section
variable {K : PySem.W.Frag} {cl : Nat → Addr}
theorem o_cat : OpS K cl rCat oCat := by
  intro ι rd rv F H x y z vx vy Q e w k
  unfold oCat at e
  split at e
  · rename_i o xs o' ys
    split at e
    · rename_i h
      obtain ⟨h1, h2, h3⟩ := h
      cases e
      obtain ⟨F1, b, ws, rfl, e1, w1, rb, _, mb⟩ := w.openTop
      obtain ⟨F2, a, vs, rfl, e2, w2, ra, _, ma⟩ := w1.openTop
      obtain ⟨u, ha, rfl⟩ := ma h1
      obtain ⟨u', hb, rfl⟩ := mb h2
      have lx := ra.len; have ly := rb.len
      rw [frzs_len] at lx ly
      exact ⟨a, b, vs, ws, rfl, rfl, ha, hb, by omega, fun p hp => k _ _ _ (w2.newSh (ra.app0 (rb.mono0 e2)) hp rfl)⟩
    · cases e
  · cases e
theorem o_rep : OpS K cl rRep oRep := by
  intro ι rd rv F H x y z vx vy Q e w k
  unfold oRep at e
  split at e
  · rename_i o xs n
    split at e
    · rename_i h
      obtain ⟨h1, h2, h4⟩ := h
      cases e
      obtain ⟨f, ry⟩ := w.topRep
      obtain ⟨rfl, _⟩ := ry
      obtain ⟨F2, a, vs, rfl, e2, w2, ra, _, ma⟩ := w.pop.openTop
      obtain ⟨u, ha, rfl⟩ := ma h1
      have lx := ra.len
      rw [frzs_len] at lx
      exact ⟨a, n, vs, rfl, rfl, ha, by omega, by omega, by rw [lx]; exact h4, fun p hp => k _ _ _ (w2.newSh (ra.flat _) hp rfl)⟩
    · cases e
  · cases e
theorem o_catT : OpS K cl (rCatT K) oCatT := by
  intro ι rd rv F H x y z vx vy Q e w k
  unfold oCatT at e
  split at e
  · rename_i o x0 xs o' y0 ys
    split at e
    · rename_i h
      cases e
      obtain ⟨F1, b, ws, rfl, e1, w1, rb, kb, mb⟩ := w.openTop
      obtain ⟨F2, a, vs, rfl, e2, w2, ra, ka, ma⟩ := w1.openTop
      have lx := ra.len; have ly := rb.len
      rw [frzs_len] at lx ly
      simp only [List.length_cons] at lx ly
      refine ⟨a, b, vs, ws, rfl, rfl, ka, kb, fun h0 => by rw [h0] at lx; simp at lx, by omega, fun h0 => by rw [h0] at ly; simp at ly, fun _ p hp => k _ _ _ (w2.newSh (ra.app0 (rb.mono0 e2)) hp rfl)⟩
    · cases e
  · cases e
theorem atI_map {α β : Type} {xs : List α} {ys : List β} (h : xs.length = ys.length) {i : Int} {x : α} (e : atI xs i = some x) : ∃ j : Nat, xs[j]? = some x ∧ ∀ y : β, ys[j]? = some y → atI ys i = some y := by
  unfold atI at e ⊢
  rw [h] at e
  cases ej : ixN ys.length i with
  | none => rw [ej] at e; cases e
  | some j => rw [ej] at e; exact ⟨j, e, fun y hy => hy⟩
theorem o_ix : OpS K cl (rIx K) oIx := by
  intro ι rd rv F H x y z vx vy Q e w k
  unfold oIx at e
  split at e
  · rename_i o xs i
    obtain ⟨f, ry⟩ := w.topRep
    obtain ⟨rfl, _⟩ := ry
    obtain ⟨F2, a, vs, rfl, e2, w2, ra, ka, ma⟩ := w.pop.openTop
    obtain ⟨j, hj, up⟩ := atI_map (ys := vs) ra.len.symm e
    obtain ⟨v, hv, rv⟩ := ra.at0 hj
    exact .inl ⟨a, vs, i, v, rfl, rfl, ka, up v hv, k _ _ _ (w2.dup0 rv)⟩
  · rename_i o xs i
    obtain ⟨f, ry⟩ := w.topRep
    obtain ⟨rfl, _⟩ := ry
    obtain ⟨F2, a, vs, rfl, e2, w2, ra, ka, ma⟩ := w.pop.openTop
    obtain ⟨j, hj, up⟩ := atI_map (ys := vs) ra.len.symm e
    obtain ⟨v, hv, rv⟩ := ra.at0 hj
    exact .inr (.inl ⟨a, vs, i, v, rfl, rfl, ka, up v hv, k _ _ _ (w2.dup0 rv)⟩)
  · cases e
/-- a scalar operation as one of trees -/
theorem OpP.ops {r : R2} {o : D → D → Option D} (h : OpP r o) (hsc : ∀ x y z, o x y = some z → isSc x = true ∧ isSc y = true) : OpS K cl r o := by
  intro ι rd rv F H x y z vx vy Q e w k
  obtain ⟨h1, h2⟩ := hsc x y z e
  obtain ⟨f, ry⟩ := w.topRep
  obtain ⟨f', rx⟩ := w.top2Rep
  obtain ⟨_, h4⟩ := h x y z vx vy H Q e (rx.scal h1) (ry.scal h2)
  exact h4 fun v hv => k _ _ v (w.pop.pop.dup0 hv.rep)
end
/-! ### expressions of any kind -/
def dA0 : M → R (List D) := fun m => .ok [] m
def dA (f : M → R D) (g : M → R (List D)) : M → R (List D) := fun m => (f m).bind fun x m => (g m).bind fun xs m => .ok (x :: xs) m
def dSq (k : Kd) (g : M → R (List D)) : M → R D := fun m => (g m).bind fun xs m => if xs.length ≤ sizeLine then .ok (.obj .own k xs) m else .no
def dB (op : List D → Option D) (g : M → R (List D)) : M → R D := fun m => (g m).bind fun xs m => ofO (op xs) m
def dLd (i : Nat) (ps : List Stp) : M → R D := fun m => match resolve m (rd m i) ps with
  | some (p, x) => match x with
    | .abs => .no
    | .obj .own k ds => .ok (frz (.obj .own k ds)) (wr m i (dput (rd m i) p (frz (.obj .own k ds))))
    | x => .ok x m
  | none => .no
def dS (s : SF) : M → R D := fun m => match s m with
  | some d => if isSc d then .ok d m else .no
  | none => .no
/-- tests -/
def dTs (s : M → Option Bool) : M → R Bool := fun m => ofO (s m) m
def dT (f : M → R D) : M → R Bool := fun m => (f m).bind fun d m => match d with
  | .bl b => .ok b m
  | _ => .no
def dAnd (f g : M → R Bool) : M → R Bool := fun m => (f m).bind fun b m => if b then g m else .ok false m
def dOr (f g : M → R Bool) : M → R Bool := fun m => (f m).bind fun b m => if b then .ok true m else g m
def dNot (f : M → R Bool) : M → R Bool := fun m => (f m).bind fun b m => .ok (!b) m
def dIf (t : M → R Bool) (f g : M → R D) : M → R D := fun m => (t m).bind fun b m => if b then f m else g m
def dAndV (f g : M → R D) : M → R D := fun m => (f m).bind fun d m => match d with
  | .bl true => g m
  | .bl false => .ok (.bl false) m
  | _ => .no
def dOrV (f g : M → R D) : M → R D := fun m => (f m).bind fun d m => match d with
  | .bl true => .ok (.bl true) m
  | .bl false => g m
  | _ => .no
def dNotV (f : M → R D) : M → R D := fun m => (f m).bind fun d m => match d with
  | .bl b => .ok (.bl (!b)) m
  | _ => .no
def dIsN (neg : Bool) (f : M → R D) : M → R D := fun m => (f m).bind fun d m => match d with
  | .abs => .no
  | .pin _ _ => .no
  | .non => .ok (.bl (!neg)) m
  | _ => .ok (.bl neg) m
section
variable {X : Cx} {cl : Nat → Addr} {xc : XC} {W : WX} {e a b c : Expr} {es : List Expr} {f g : M → R D} {t u : M → R Bool} {ga : M → R (List D)} {pos : Pos}
theorem d_sc {s : SF} (h : PEs X cl e s) : PEd X cl xc W e (dS s) := d_s h
theorem d_a0 : PAd X cl xc W [] dA0 := pa_imp pa_nil fun σ H Q ⟨φ, fd, fv, F, m, lv, r, q⟩ => q F H [] rfl (r.tops r.wf.noTops)
theorem d_a (ha : PEd X cl xc W e f) (hb : PAd X cl xc W es ga) (hs : starEach (e :: es) X.env = (false, eval e X.env) :: starEach es X.env) : PAd X cl xc W (e :: es) (dA f ga) :=
  pa_imp (pa_cons ha hb hs) fun σ H Q ⟨φ, fd, fv, F, m, lv, r, q⟩ => by
    refine ⟨φ, fd, fv, F, m, lv, r, ?_⟩
    unfold dA at q
    cases e1 : f m with
    | no => simp only [e1, R.bind] at q
    | ex c n m1 => simp only [e1, R.bind] at q ⊢; exact q
    | ok x m1 =>
      simp only [e1, R.bind] at q ⊢
      intro F1 H1 v r1
      refine ⟨_, psh x fd, psh v fv, F1, m1, lv, r1, ?_⟩
      cases e2 : ga m1 with
      | no => simp only [e2, R.bind] at q
      | ex c n m2 => simp only [e2, R.bind] at q ⊢; exact fun F2 H2 dx r2 => q F2 H2 dx r2.pop
      | ok xs m2 =>
        simp only [e2, R.bind] at q ⊢
        intro F2 H2 vs hl r2
        refine q F2 H2 (v :: vs) (by simp [hl]) ?_
        refine r2.untops.pop.tops ?_
        refine WF.consTop ?_
        have w := r2.wf.toTops
        refine w.map (fun a => match a with | .inl i => some (.inl i) | .inr none => some (.inr (.fr none)) | .inr (some (.fr r)) => some (.inr (.fr (some r))) | .inr (some (.l k)) => some (.inr (.l k)) | .inr (some (.s i)) => some (.inr (.s i))) (fun a b r h1 h2 => ?_) (fun a r h => ?_) (fun a h => ?_)
        · have e := h1.trans h2.symm
          rcases a with a | (_ | (a | a | a)) <;> rcases b with b | (_ | (b | b | b)) <;> first | rfl | (simp at e; done) | (simp at e; subst e; rfl)
        · rcases a with a | (_ | (a | a | a)) <;> (cases h; exact ⟨rfl, rfl⟩)
        · rcases a with a | (_ | (a | a | a)) <;> cases h
/-- behind an argument list -/
theorem tA_bind {h : List D → M → R D} {σ : St} {H : Hp} {Q : VK} {P : List V → Hp → Prop} (q : tE X.K cl xc W (fun m => (ga m).bind h) σ H Q)
    (hp : ∀ (φ : Type) (fd : φ → D) (fv : φ → V) (F H1 : Hp) (m : M) (lv : List V) (vs : List V) (ds : List D), vs.length = ds.length → Rel X.K cl (pshs .abs ds fd) (pshs .non vs fv) F H1 σ m lv → (match h ds m with
      | .ok d m' => ∀ (F' H' : Hp) (v : V), Rel X.K cl (psh d fd) (psh v fv) F' H' σ m' lv → Q v H'
      | .ex c n m' => PostX X.K cl xc W fd fv σ lv c n m'
      | .no => False) → P vs H1) : tA X.K cl xc W ga σ H P := by
  obtain ⟨φ, fd, fv, F, m, lv, r, q⟩ := q
  refine ⟨φ, fd, fv, F, m, lv, r, ?_⟩
  cases e : ga m with
  | ok ds m1 =>
    simp only [e, R.bind] at q ⊢
    exact fun F' H' vs hl r' => hp φ fd fv F' H' m1 lv vs ds hl r' q
  | ex c n m1 => simpa only [e, R.bind] using q
  | no => simp only [e, R.bind] at q
theorem d_lst (h : PAd X cl xc W es ga) : PEd X cl xc W (.List es pos) (dSq .lst ga) :=
  pe_imp (pe_lst h) fun σ H Q q => tA_bind q fun φ fd fv F H1 m lv vs ds hl r q => by
    by_cases hz : ds.length ≤ sizeLine
    · rw [if_pos hz] at q
      exact ⟨by rw [hl]; exact hz, fun p hp => q F _ _ (r.untops.push (r.wf.toTops.node hl hp rfl))⟩
    · rw [if_neg hz] at q; exact q.elim
theorem d_tup {k : Nat} (h : PAd X cl xc W es ga) : PEd X cl xc W (.Tuple es k pos) (dSq .tup ga) :=
  pe_imp (pe_tup h) fun σ H Q q => tA_bind q fun φ fd fv F H1 m lv vs ds hl r q => by
    by_cases hz : ds.length ≤ sizeLine
    · rw [if_pos hz] at q
      exact ⟨by rw [hl]; exact hz, fun p hp => q F _ _ (r.untops.push (r.wf.toTops.node hl hp rfl))⟩
    · rw [if_neg hz] at q; exact q.elim
theorem d_blt {x : Str} {p : Pos} {id : String} {r : List V → Hp → VK → Prop} {op : List D → Option D} (hc : CallR X (.builtin id) r) (hs : CaS X.K cl r op) (hg : Gl X x) (hm : X.mg x = none) (hv : bootBuiltins x = some (.builtin id)) (ha : PAd X cl xc W (e :: es) ga) (hn : x ≠ "__name__") (hdb : (x == ("__debug__" : Str)) = false)
    (he : starEach (e :: es) X.env = (false, eval e X.env) :: starEach es X.env) (hpl : (backTo pos (starEach es X.env)).any (·.1) = false) : PEd X cl xc W (.Call (.Name x p) (e :: es) [] pos) (dB op ga) :=
  pe_imp (pe_callB hc hg hm hv ha hn hdb he hpl) fun σ H Q q => tA_bind q fun φ fd fv F H1 m lv vs ds hl r q => by
    unfold ofO at q
    cases eo : op ds with
    | none => simp only [eo] at q
    | some z =>
      simp only [eo] at q
      exact hs _ _ F H1 ds z vs Q eo hl r.wf.toTops fun F' H' v w => q F' H' v (r.untops.push w)
theorem d_bltT {x : Str} {p : Pos} {T : String} {r : List V → Hp → VK → Prop} {op : List D → Option D} (hc : CallR X (.type T) r) (hs : CaS X.K cl r op) (hg : Gl X x) (hm : X.mg x = none) (hv : bootBuiltins x = some (.type T)) (ha : PAd X cl xc W (e :: es) ga) (hn : x ≠ "__name__") (hdb : (x == ("__debug__" : Str)) = false)
    (he : starEach (e :: es) X.env = (false, eval e X.env) :: starEach es X.env) (hpl : (backTo pos (starEach es X.env)).any (·.1) = false) : PEd X cl xc W (.Call (.Name x p) (e :: es) [] pos) (dB op ga) :=
  pe_imp (pe_callTy hc hg hm hv ha hn hdb he hpl) fun σ H Q q => tA_bind q fun φ fd fv F H1 m lv vs ds hl r q => by
    unfold ofO at q
    cases eo : op ds with
    | none => simp only [eo] at q
    | some z =>
      simp only [eo] at q
      exact hs _ _ F H1 ds z vs Q eo hl r.wf.toTops fun F' H' v w => q F' H' v (r.untops.push w)
theorem d_ix (ha : PEd X cl xc W a f) (hb : PEd X cl xc W b g) (hp : PlainIx b) : PEd X cl xc W (.Subscript a b pos) (dBin oIx f g) :=
  pe_imp (pe_ix ix_seq ha hb hp) fun σ H Q h => tE_bind h fun φ fd fv F H1 m lv x d r1 q => tE_next r1 q fun F2 H2 m2 y d2 r2 q2 => by
    unfold ofO at q2
    cases e : oIx d d2 with
    | none => simp only [e] at q2
    | some z =>
      simp only [e] at q2
      exact o_ix _ _ F2 H2 d d2 z x y Q e r2.wf.toTop2 fun F' H' v w => q2 F' H' v (r2.pop.pop.push w)
theorem d_ld {i : Nat} {ps : List Stp} (ha : PEl X cl a i ps) : PEd X cl xc W a (dLd i ps) :=
  pe_imp ha fun σ H Q ⟨φ, fd, fv, F, m, lv, r, q⟩ => by
    unfold dLd at q
    cases er : resolve m (rd m i) ps with
    | none => simp only [er] at q
    | some z =>
      obtain ⟨p, x⟩ := z
      simp only [er] at q
      have hi : x ≠ .abs → isAbs (rd m i) = false := fun hx => by
        cases hm : rd m i with
        | abs =>
          have := resolve_get er
          rw [hm] at this
          cases p with
          | nil => simp [dget] at this; exact absurd this.symm hx
          | cons _ _ => simp [dget] at this
        | _ => rfl
      have copy : isSh x = true → x ≠ .abs → (∀ (F' H' : Hp) (v : V), Rel X.K cl (psh x fd) (psh v fv) F' H' σ m lv → Q v H') → tPl X.K cl i ps σ H Q := fun hs hx q => by
        obtain ⟨q1, q2⟩ := r.at (hi hx)
        obtain ⟨z, va, w⟩ := r.wf.copyAt (root φ m i) (p := p) (by rw [q1]; exact resolve_get er) hs
        rw [q1] at va
        exact ⟨φ, fd, fv, F, m, lv, r, hi hx, p, x, z, er, va, q F H z (r.push w)⟩
      cases x with
      | abs => exact q.elim
      | obj o k ds =>
        cases o with
        | own =>
          have hi := hi (by simp)
          obtain ⟨q1, q2⟩ := r.at hi
          obtain ⟨z, F', va, w⟩ := r.wf.readAt (root φ m i) (p := p) (by rw [q1]; exact resolve_get er)
          rw [q1] at va w
          refine ⟨φ, fd, fv, F, m, lv, r, hi, p, _, z, er, va, q F' H z ((r.wr hi w.pop).push ?_)⟩
          rw [cD_wr r hi]; exact w
        | shr => exact copy rfl (by simp) q
        | con => exact copy rfl (by simp) q
      | _ => exact copy rfl (by simp) q
/-! tests -/
theorem tT_bind {h : Bool → M → R Bool} {σ : St} {H : Hp} {Q P : Bool → Hp → Prop} (q : tT X.K cl xc W (fun m => (t m).bind h) σ H Q)
    (hp : ∀ (b : Bool) (H1 : Hp), tT X.K cl xc W (h b) σ H1 Q → P b H1) : tT X.K cl xc W t σ H P := by
  obtain ⟨φ, fd, fv, F, m, lv, r, q⟩ := q
  refine ⟨φ, fd, fv, F, m, lv, r, ?_⟩
  cases e : t m with
  | ok b m1 =>
    simp only [e, R.bind] at q ⊢
    exact fun F' H' r' => hp b H' ⟨φ, fd, fv, F', m1, lv, r', q⟩
  | ex c n m1 => simpa only [e, R.bind] using q
  | no => simp only [e, R.bind] at q
theorem tT_ok {b : Bool} {σ : St} {H : Hp} {Q : Bool → Hp → Prop} (q : tT X.K cl xc W (fun m => .ok b m) σ H Q) : Q b H := by
  obtain ⟨φ, fd, fv, F, m, lv, r, q⟩ := q
  exact q F H r
theorem t_sc {s : M → Option Bool} (h : PTs' X cl e s) : PTd X cl xc W e (dTs s) :=
  pt_imp h fun σ H Q ⟨φ, fd, fv, F, m, lv, r, q⟩ => by
    unfold dTs ofO at q
    cases es : s m with
    | none => simp only [es] at q
    | some b => simp only [es] at q; exact ⟨φ, fd, fv, F, m, lv, r, b, es, q F H r⟩
/-- behind a value, in a test -/
theorem tET {σ : St} {H : Hp} {Q : Bool → Hp → Prop} (q : tT X.K cl xc W (dT f) σ H Q) : tE X.K cl xc W f σ H fun x H1 => ∃ c, x = .bl c ∧ Q c H1 := by
  obtain ⟨φ, fd, fv, F, m, lv, r, q⟩ := q
  refine ⟨φ, fd, fv, F, m, lv, r, ?_⟩
  unfold dT at q
  cases e : f m with
  | ok d m1 =>
    simp only [e, R.bind] at q ⊢
    intro F' H' v r'
    obtain ⟨f, rp⟩ := r'.wf.toTop.topRep
    cases d with
    | bl b =>
      obtain ⟨rfl, _⟩ := rp
      exact ⟨b, rfl, q F' H' r'.pop⟩
    | _ => exact q.elim
  | ex c n m1 => simpa only [e, R.bind] using q
  | no => simp only [e, R.bind] at q
theorem t_d (h : PEd X cl xc W e f) (he : ∀ whole, isTrue e X.env whole = (do let v ← whole; standAt e.pos; holding [v] (truthy v))) : PTd X cl xc W e (dT f) := pt_imp (pt_val h he) fun σ H Q q => tET q
theorem t_and1 (h : PTd X cl xc W a t) : PW X (.BoolOp .And [a] pos) (tT X.K cl xc W t) := pw_and1 h
theorem t_or1 (h : PTd X cl xc W a t) : PW X (.BoolOp .Or [a] pos) (tT X.K cl xc W t) := pw_or1 h
theorem t_and (h : PTd X cl xc W a t) (h' : PW X (.BoolOp .And (b :: es) pos) (tT X.K cl xc W u)) : PW X (.BoolOp .And (a :: b :: es) pos) (tT X.K cl xc W (dAnd t u)) :=
  pw_imp (pw_and h h') fun σ H Q q => tT_bind q fun k H1 q => by
    cases k with
    | true => rw [if_pos rfl]; exact q
    | false => rw [if_neg (by decide)]; exact tT_ok q
theorem t_or (h : PTd X cl xc W a t) (h' : PW X (.BoolOp .Or (b :: es) pos) (tT X.K cl xc W u)) : PW X (.BoolOp .Or (a :: b :: es) pos) (tT X.K cl xc W (dOr t u)) :=
  pw_imp (pw_or h h') fun σ H Q q => tT_bind q fun k H1 q => by
    cases k with
    | true => rw [if_pos rfl]; exact tT_ok q
    | false => rw [if_neg (by decide)]; exact q
theorem t_not (h : PTd X cl xc W a t) : PTd X cl xc W (.UnaryOp .Not a pos) (dNot t) :=
  pt_imp (pt_not h) fun σ H Q q => tT_bind q fun k H1 q => tT_ok q
theorem tT_E {g : Bool → M → R D} {σ : St} {H : Hp} {Q : VK} {P : Bool → Hp → Prop} (q : tE X.K cl xc W (fun m => (t m).bind g) σ H Q) (hp : ∀ (b : Bool) (H1 : Hp), tE X.K cl xc W (g b) σ H1 Q → P b H1) : tT X.K cl xc W t σ H P := by
  obtain ⟨φ, fd, fv, F, m, lv, r, q⟩ := q
  refine ⟨φ, fd, fv, F, m, lv, r, ?_⟩
  cases e : t m with
  | ok b m1 =>
    simp only [e, R.bind] at q ⊢
    exact fun F' H' r' => hp b H' ⟨φ, fd, fv, F', m1, lv, r', q⟩
  | ex c n m1 => simpa only [e, R.bind] using q
  | no => simp only [e, R.bind] at q
theorem d_if (h : PTd X cl xc W c t) (ha : PEd X cl xc W a f) (hb : PEd X cl xc W b g) : PEd X cl xc W (.IfExp c a b pos) (dIf t f g) :=
  pe_imp (pe_ifExp h ha hb) fun σ H Q q => tT_E q fun k H1 q => by
    cases k with
    | true => rw [if_pos rfl]; exact q
    | false => rw [if_neg (by decide)]; exact q
theorem tE_ok {d : D} {σ : St} {H : Hp} {Q : VK} {φ : Type} {fd : φ → D} {fv : φ → V} {F : Hp} {m : M} {lv : List V} (r : Rel X.K cl fd fv F H σ m lv) {v : V} (hs : Scal d v) (q : ∀ (F' H' : Hp) (v : V), Rel X.K cl (psh d fd) (psh v fv) F' H' σ m lv → Q v H') : Q v H := q F H v (r.push (r.wf.dup0 hs.rep))
theorem d_andV1 {op : BoolOp} (h : PEd X cl xc W a f) : PEd X cl xc W (.BoolOp op [a] pos) f := pe_one h
theorem d_andV (h : PEd X cl xc W a f) (h' : PEd X cl xc W (.BoolOp .And (b :: es) pos) g) : PEd X cl xc W (.BoolOp .And (a :: b :: es) pos) (dAndV f g) :=
  pe_imp (pe_and h h') fun σ H Q q => tE_bind q fun φ fd fv F H1 m lv x d r q => by
    obtain ⟨f', rp⟩ := r.wf.toTop.topRep
    cases d with
    | bl k =>
      obtain ⟨rfl, _⟩ := rp
      refine ⟨k, rfl, ?_⟩
      cases k with
      | true => rw [if_pos rfl]; exact ⟨φ, fd, fv, F, m, lv, r.pop, q⟩
      | false => rw [if_neg (by decide)]; exact tE_ok (d := .bl false) r.pop rfl q
    | _ => exact q.elim
theorem d_orV (h : PEd X cl xc W a f) (h' : PEd X cl xc W (.BoolOp .Or (b :: es) pos) g) : PEd X cl xc W (.BoolOp .Or (a :: b :: es) pos) (dOrV f g) :=
  pe_imp (pe_or h h') fun σ H Q q => tE_bind q fun φ fd fv F H1 m lv x d r q => by
    obtain ⟨f', rp⟩ := r.wf.toTop.topRep
    cases d with
    | bl k =>
      obtain ⟨rfl, _⟩ := rp
      refine ⟨k, rfl, ?_⟩
      cases k with
      | true => rw [if_pos rfl]; exact tE_ok (d := .bl true) r.pop rfl q
      | false => rw [if_neg (by decide)]; exact ⟨φ, fd, fv, F, m, lv, r.pop, q⟩
    | _ => exact q.elim
theorem d_notV (h : PEd X cl xc W a f) : PEd X cl xc W (.UnaryOp .Not a pos) (dNotV f) :=
  pe_imp (pe_not h) fun σ H Q q => tE_bind q fun φ fd fv F H1 m lv x d r q => by
    obtain ⟨f', rp⟩ := r.wf.toTop.topRep
    cases d with
    | bl k =>
      obtain ⟨rfl, _⟩ := rp
      exact ⟨k, rfl, tE_ok (d := .bl (!k)) r.pop rfl q⟩
    | _ => exact q.elim
theorem isN_of {φ : Type} {fd : φ → D} {fv : φ → V} {F H1 : Hp} {σ : St} {m : M} {lv : List V} {x : V} {d : D} {Q : VK} (neg : Bool) (r : Rel X.K cl (psh d fd) (psh x fv) F H1 σ m lv) (q : match (match d with
      | .abs => (R.no : R D)
      | .pin _ _ => (R.no : R D)
      | .non => R.ok (D.bl (!neg)) m
      | _ => R.ok (D.bl neg) m) with
      | .ok d m' => ∀ (F' H' : Hp) (v : V), Rel X.K cl (psh d fd) (psh v fv) F' H' σ m' lv → Q v H'
      | .ex c n m' => PostX X.K cl xc W fd fv σ lv c n m'
      | .no => False) : Q (.bl (if neg then !decide (x = .non) else decide (x = .non))) H1 := by
  obtain ⟨f', rp⟩ := r.wf.toTop.topRep
  cases d with
  | abs => exact q.elim
  | pin a u => exact q.elim
  | non => obtain ⟨rfl, _⟩ := rp; refine tE_ok r.pop ?_ q; cases neg <;> rfl
  | bl b => obtain ⟨rfl, _⟩ := rp; refine tE_ok r.pop ?_ q; cases neg <;> rfl
  | int b => obtain ⟨rfl, _⟩ := rp; refine tE_ok r.pop ?_ q; cases neg <;> rfl
  | str b => obtain ⟨rfl, _⟩ := rp; refine tE_ok r.pop ?_ q; cases neg <;> rfl
  | obj o k ds => obtain ⟨a, vs, fps, rfl, _⟩ := rp; refine tE_ok r.pop ?_ q; cases neg <;> rfl
theorem d_isN {j : Nat} {p : Pos} (h : PEd X cl xc W a f) : PEd X cl xc W (.Compare a [.Is] [.Constant .none j p] pos) (dIsN false f) :=
  pe_imp (pe_cmp (pc_isN h)) fun σ H Q q => tE_bind q fun φ fd fv F H1 m lv x d r q => isN_of false r q
theorem d_isnN {j : Nat} {p : Pos} (h : PEd X cl xc W a f) : PEd X cl xc W (.Compare a [.IsNot] [.Constant .none j p] pos) (dIsN true f) :=
  pe_imp (pe_cmp (pc_notN h)) fun σ H Q q => tE_bind q fun φ fd fv F H1 m lv x d r q => isN_of true r q
theorem t_isN {j : Nat} {p : Pos} (h : PEd X cl xc W a f) : PTd X cl xc W (.Compare a [.Is] [.Constant .none j p] pos) (dT (dIsN false f)) :=
  pt_imp (pt_cmp (pc_isN h)) fun σ H Q q => by
    have q := tET q
    exact tE_bind q fun φ fd fv F H1 m lv x d r q => isN_of (Q := fun x H1 => ∃ c, x = .bl c ∧ Q c H1) false r q
theorem t_isnN {j : Nat} {p : Pos} (h : PEd X cl xc W a f) : PTd X cl xc W (.Compare a [.IsNot] [.Constant .none j p] pos) (dT (dIsN true f)) :=
  pt_imp (pt_cmp (pc_notN h)) fun σ H Q q => by
    have q := tET q
    exact tE_bind q fun φ fd fv F H1 m lv x d r q => isN_of (Q := fun x H1 => ∃ c, x = .bl c ∧ Q c H1) true r q
/-- a comparison of any things, as a test -/
theorem t_cmpD {op : CmpOp} {r : R2} {o : D → D → Option D} (ho : OpR X (compareOp op) r) (hs : OpS X.K cl r o) (ha : PEd X cl xc W a f) (hb : PEd X cl xc W b g) (hm : behindInMarks op b = false) : PTd X cl xc W (.Compare a [op] [b] pos) (dT (dBin o f g)) :=
  pt_imp (pt_cmpR ho ha hb hm) fun σ H Q q => by
    have q := tET q
    exact tE_bind q fun φ fd fv F H1 m lv x d r1 q => tE_next r1 q fun F2 H2 m2 y d2 r2 q2 => by
      unfold ofO at q2
      cases e : o d d2 with
      | none => simp only [e] at q2
      | some z =>
        simp only [e] at q2
        exact hs _ _ F2 H2 d d2 z x y _ e r2.wf.toTop2 fun F' H' v w => q2 F' H' v (r2.pop.pop.push w)
end
end Rf
namespace Rf
open PySem L2
/-! statements -/
def dNx : M → R Fl := fun m => .ok .nx m
def dSeq (f g : M → R Fl) : M → R Fl := fun m => (f m).bind fun fl m => match fl with
  | .nx => g m
  | fl => .ok fl m
def dBk : M → R Fl := fun m => .ok .bk m
def dCt : M → R Fl := fun m => .ok .ct m
def dRet (f : M → R D) : M → R Fl := fun m => (f m).bind fun d m => .ok (.rt d) m
def dRetN : M → R Fl := fun m => .ok (.rt .non) m
def dIfS (t : M → R Bool) (f g : M → R Fl) : M → R Fl := fun m => (t m).bind fun b m => if b then f m else g m
def dDrop (f : M → R D) : M → R Fl := fun m => (f m).bind fun _ m => .ok .nx m
abbrev TF := D → M → Option M
def gNm (i : Nat) : TF := fun d m => if i < m.sl.length then some (setS m i d) else none
def kids : D → List D
  | .obj _ _ ds => ds
  | _ => []
def gsNil : List D → M → Option M := fun ds m => match ds with
  | [] => some m
  | _ => none
def gsCons (g : TF) (gs : List D → M → Option M) : List D → M → Option M := fun ds m => match ds with
  | d :: ds => (g d m).bind (gs ds)
  | [] => none
def gTp (gs : List D → M → Option M) : TF := fun d m => match d with
  | .obj _ .tup xs => gs (frzs xs) m
  | _ => none
def dAsg (g : TF) (f : M → R D) : M → R Fl := fun m => (f m).bind fun d m => match g d m with
  | some m => .ok .nx m
  | none => .no
def loopW (t : M → R Bool) (b : M → R Fl) : Nat → M → R Fl
  | 0, _ => .no
  | n + 1, m => (t m).bind fun k m => if k then (b m).bind fun fl m => match fl with
      | .nx => loopW t b n m
      | .ct => loopW t b n m
      | .bk => .ok .nx m
      | .rt d => .ok (.rt d) m
    else .ok .nx m
def loopF (g : TF) (b : M → R Fl) : List D → M → R Fl
  | [], m => .ok .nx m
  | d :: ds, m => match g d m with
    | none => .no
    | some m => (b m).bind fun fl m => match fl with
      | .nx => loopF g b ds m
      | .ct => loopF g b ds m
      | .bk => .ok .nx m
      | .rt d => .ok (.rt d) m
/-- what is walked: what is held meanwhile, the items -/
structure Itr where
  hold : List D
  items : List D
def dFor (it : M → R Itr) (g : TF) (b : M → R Fl) : M → R Fl := fun m => (it m).bind fun w m => loopF g b w.items m
section
variable {K : PySem.W.Frag} {cl : Nat → Addr} {F H : Hp} {ι φ : Type} {σ : St} {rd : ι → D} {rv : ι → V}
theorem Rep.isSh {d : D} {v : V} (r : Rep K cl F H d v []) : isSh d = true := by
  cases d with
  | obj o k ds =>
    obtain ⟨a, vs, fps, _, n, _⟩ := r
    cases o with
    | own => obtain ⟨_, _, e⟩ := n; cases e
    | shr => rfl
    | con => rfl
  | _ => rfl
theorem Reps.allSh : ∀ {ds : List D} {vs : List V}, Reps K cl F H ds vs [] → ∀ d, d ∈ ds → isSh d = true
  | [], _, _, d, h => by simp at h
  | d :: ds, _, r, x, h => by
    obtain ⟨v, vr, f1, f2, rfl, e, r1, r2⟩ := r
    obtain ⟨rfl, rfl⟩ := List.append_eq_nil_iff.mp e.symm
    rcases List.mem_cons.mp h with e | h
    · subst e; exact r1.isSh
    · exact Reps.allSh r2 x h
theorem WF.addTops {ds : List D} {vs : List V} (w : WF K cl F H rd rv) (r : Reps K cl F H ds vs []) : WF K cl F H (pshs .abs ds rd) (pshs .non vs rv) := by
  obtain ⟨fp, h1, h2, h3⟩ := w.fp
  refine ⟨w.ex, fun a => match a with | .inl _ => [] | .inr r => fp r, fun a => ?_, fun a => ?_, fun a b x hx hx' => ?_⟩
  · cases a with
    | inl i =>
      show Rep K cl F H (ds[i]?.getD .abs) (vs[i]?.getD .non) []
      cases e : ds[i]? with
      | none => exact rfl
      | some d =>
        obtain ⟨v, hv, rv⟩ := r.at0 e
        rw [hv]; exact rv
    | inr r => exact h1 r
  · cases a with
    | inl i => exact List.nodup_nil
    | inr r => exact h2 r
  · cases a with
    | inl i => simp at hx
    | inr r =>
      cases b with
      | inl i => simp at hx'
      | inr r' => rw [h3 r r' x hx hx']
theorem reps_sh : ∀ {ds : List D} {vs : List V}, vs.length = ds.length → (∀ (i : Nat) (d : D) (v : V), ds[i]? = some d → vs[i]? = some v → Rep K cl F H d v []) → Reps K cl F H ds vs []
  | [], [], _, _ => ⟨rfl, rfl⟩
  | [], _ :: _, h, _ => by simp at h
  | _ :: _, [], h, _ => by simp at h
  | d :: ds, v :: vs, hl, h => ⟨v, vs, [], [], rfl, rfl, h 0 d v rfl rfl, reps_sh (by simpa using hl) fun i d' v' h1 h2 => h (i + 1) d' v' (by simpa using h1) (by simpa using h2)⟩
theorem WF.repsOf {ds : List D} {vs : List V} (w : WF K cl F H (pshs .abs ds rd) (pshs .non vs rv)) (hl : vs.length = ds.length) (h : ∀ d, d ∈ ds → Rf.isSh d = true) : Reps K cl F H ds vs [] := by
  obtain ⟨fp, h1, h2, h3⟩ := w.fp
  refine reps_sh hl fun i d v hd hv => ?_
  have r := h1 (.inl i)
  have r : Rep K cl F H (ds[i]?.getD .abs) (vs[i]?.getD .non) (fp (.inl i)) := r
  rw [hd, hv] at r
  have e := r.sh (h d (List.mem_of_getElem? hd))
  rw [e] at r
  exact r
end
section
variable (K : PySem.W.Frag) (cl : Nat → Addr) (xc : XC) (W : WX) {φ : Type}
def PostS (fd : φ → D) (fv : φ → V) (lv : List V) (Dn : Ends) : R Fl → Prop
  | .ok .nx m' => ∀ (F' H' : Hp) (σ' : St), Rel K cl fd fv F' H' σ' m' lv → Dn.nx σ' H'
  | .ok .bk m' => ∀ (F' H' : Hp) (σ' : St), Rel K cl fd fv F' H' σ' m' lv → Dn.bk σ' H'
  | .ok .ct m' => ∀ (F' H' : Hp) (σ' : St), Rel K cl fd fv F' H' σ' m' lv → Dn.ct σ' H'
  | .ok (.rt d) m' => ∀ (F' H' : Hp) (σ' : St) (v : V), Rel K cl (psh d fd) (psh v fv) F' H' σ' m' lv → Dn.rt v H'
  | .ex c n m' => ∀ (F' H' : Hp) (σ' : St) (dx : Option Addr), Rel K cl fd fv F' H' σ' m' lv → ExcAt xc c n dx H' → W (.ref (xc.cls c)) dx σ' H'
  | .no => False
/-- only these slots changed -/
def Chg (js : List Nat) (σ σ' : St) : Prop := σ'.length = σ.length ∧ ∀ i, i ∉ js → σ'[i]? = σ[i]?
def tG (js : List Nat) (g : TF) : TG := fun v σ H Q => ∃ (φ : Type) (fd : φ → D) (fv : φ → V) (F : Hp) (m : M) (lv : List V) (d : D) (m' : M), Rel K cl (psh d fd) (psh v fv) F H σ m lv ∧ g d m = some m' ∧
  ∀ (F' H' : Hp) (σ' : St), Chg js σ σ' → Rel K cl fd fv F' H' σ' m' lv → Q σ' H'
def tGs (js : List Nat) (g : List D → M → Option M) : TGs := fun vs σ H Q => ∃ (φ : Type) (fd : φ → D) (fv : φ → V) (F : Hp) (m : M) (lv : List V) (ds : List D) (m' : M), Rel K cl fd fv F H σ m lv ∧ Reps K cl F H ds vs [] ∧ g ds m = some m' ∧
  ∀ (F' H' : Hp) (σ' : St), Chg js σ σ' → Rel K cl fd fv F' H' σ' m' lv → Q σ' H'
def ItS (J : It) (hold : List D) (hv : List V) (items : List D) : Prop := ∀ (ι : Type) (rd : ι → D) (rv : ι → V) (F H : Hp), WF K cl F H (pshs .abs hold rd) (pshs .non hv rv) →
  (∀ (i : Nat) (d : D), items[i]? = some d → J.go i H ∧ ∀ x H', J.yld i H x H' → ∃ F', WF K cl F' H' (psh d (pshs .abs hold rd)) (psh x (pshs .non hv rv))) ∧ J.stop items.length H
def tI (f : M → R Itr) : TI := fun σ H R => ∃ (φ : Type) (fd : φ → D) (fv : φ → V) (F : Hp) (m : M) (lv : List V), Rel K cl fd fv F H σ m lv ∧ match f m with
  | .ok w m' => ∀ (F' H' : Hp) (hv : List V) (J : It), hv.length = w.hold.length → Rel K cl (pshs .abs w.hold fd) (pshs .non hv fv) F' H' σ m' lv → ItS K cl J w.hold hv w.items → R J H'
  | .ex c n m' => ∀ (F' H' : Hp) (dx : Option Addr), Rel K cl fd fv F' H' σ m' lv → ExcAt xc c n dx H' → W (.ref (xc.cls c)) dx σ H'
  | .no => False
end
section
variable {X : Cx} {cl : Nat → Addr} {xc : XC} {W : WX} {e a b c : Expr} {es : List Expr} {st : Stmt} {rest body orelse : List Stmt} {f g : M → R D} {t : M → R Bool} {p q s : M → R Fl} {pos : Pos}
theorem tS_post {p : M → R Fl} {Dn : Ends} {σ : St} {H : Hp} : tS X.K cl xc W p Dn σ H ↔ ∃ (φ : Type) (fd : φ → D) (fv : φ → V) (F : Hp) (m : M) (lv : List V), Rel X.K cl fd fv F H σ m lv ∧ PostS X.K cl xc W fd fv lv Dn (p m) := by
  constructor
  · rintro ⟨φ, fd, fv, F, m, lv, r, q⟩
    refine ⟨φ, fd, fv, F, m, lv, r, ?_⟩
    cases e : p m with
    | ok fl m' => cases fl <;> (rw [e] at q; exact q)
    | ex c n m' => rw [e] at q; exact q
    | no => rw [e] at q; exact q
  · rintro ⟨φ, fd, fv, F, m, lv, r, q⟩
    refine ⟨φ, fd, fv, F, m, lv, r, ?_⟩
    cases e : p m with
    | ok fl m' => cases fl <;> (rw [e] at q; exact q)
    | ex c n m' => rw [e] at q; exact q
    | no => rw [e] at q; exact q
theorem st_nil : PSsd X cl xc W [] dNx := pss_imp pss_nil fun Dn σ H ⟨φ, fd, fv, F, m, lv, r, q⟩ => q F H σ r
theorem st_cons (h : PSd X cl xc W st p) (h' : PSsd X cl xc W rest q) : PSsd X cl xc W (st :: rest) (dSeq p q) :=
  pss_imp (pss_cons h h') fun Dn σ H hq => by
    obtain ⟨φ, fd, fv, F, m, lv, r, hq⟩ := tS_post.mp hq
    refine tS_post.mpr ⟨φ, fd, fv, F, m, lv, r, ?_⟩
    unfold dSeq at hq
    cases e : p m with
    | no => rw [e] at hq; exact hq
    | ex c n m' => rw [e] at hq; exact hq
    | ok fl m' =>
      rw [e] at hq
      cases fl with
      | nx => exact fun F' H' σ' r' => tS_post.mpr ⟨φ, fd, fv, F', m', lv, r', hq⟩
      | _ => exact hq
theorem st_pass : PSd X cl xc W (.Pass pos) dNx := ps_imp ps_pass fun Dn σ H ⟨φ, fd, fv, F, m, lv, r, q⟩ => q F H σ r
theorem st_break : PSd X cl xc W (.Break pos) dBk := ps_imp ps_break fun Dn σ H ⟨φ, fd, fv, F, m, lv, r, q⟩ => q F H σ r
theorem st_continue : PSd X cl xc W (.Continue pos) dCt := ps_imp ps_continue fun Dn σ H ⟨φ, fd, fv, F, m, lv, r, q⟩ => q F H σ r
theorem st_retN : PSd X cl xc W (.Return none pos) dRetN := ps_imp ps_retN fun Dn σ H ⟨φ, fd, fv, F, m, lv, r, q⟩ => q F H σ .non (r.push (r.wf.dup0 ⟨rfl, rfl⟩))
/-- a value, then a statement's end -/
theorem tS_E {g : D → M → R Fl} {Dn : Ends} {σ : St} {H : Hp} {P : VK} (h : tS X.K cl xc W (fun m => (f m).bind g) Dn σ H)
    (hp : ∀ (φ : Type) (fd : φ → D) (fv : φ → V) (F H1 : Hp) (m : M) (lv : List V) (x : V) (d : D), Rel X.K cl (psh d fd) (psh x fv) F H1 σ m lv → PostS X.K cl xc W fd fv lv Dn (g d m) → P x H1) : tE X.K cl xc W f σ H P := by
  obtain ⟨φ, fd, fv, F, m, lv, r, q⟩ := tS_post.mp h
  refine ⟨φ, fd, fv, F, m, lv, r, ?_⟩
  cases e : f m with
  | ok d m1 =>
    rw [e] at q
    exact fun F' H' v r' => hp φ fd fv F' H' m1 lv v d r' q
  | ex c n m1 => rw [e] at q; exact fun F' H' dx r' => q F' H' σ dx r'
  | no => rw [e] at q; exact q
theorem st_ret (h : PEd X cl xc W e f) : PSd X cl xc W (.Return (some e) pos) (dRet f) :=
  ps_imp (ps_ret h) fun Dn σ H hq => tS_E hq fun φ fd fv F H1 m lv x d r q => q F H1 σ x r
theorem st_expr (h : PEd X cl xc W e f) (hs : swapsWith e none pos.line X.env = pure false) : PSd X cl xc W (.Expr e pos) (dDrop f) :=
  ps_imp (ps_expr h hs) fun Dn σ H hq => tS_E hq fun φ fd fv F H1 m lv x d r q => q F H1 σ r.pop
theorem tS_T {g : Bool → M → R Fl} {Dn : Ends} {σ : St} {H : Hp} {P : Bool → Hp → Prop} (h : tS X.K cl xc W (fun m => (t m).bind g) Dn σ H) (hp : ∀ (b : Bool) (H1 : Hp), tS X.K cl xc W (g b) Dn σ H1 → P b H1) : tT X.K cl xc W t σ H P := by
  obtain ⟨φ, fd, fv, F, m, lv, r, q⟩ := tS_post.mp h
  refine ⟨φ, fd, fv, F, m, lv, r, ?_⟩
  cases e : t m with
  | ok d m1 =>
    rw [e] at q
    exact fun F' H' r' => hp d H' (tS_post.mpr ⟨φ, fd, fv, F', m1, lv, r', q⟩)
  | ex c n m1 => rw [e] at q; exact fun F' H' dx r' => q F' H' σ dx r'
  | no => rw [e] at q; exact q
theorem st_if (h : PTd X cl xc W c t) (ha : PSsd X cl xc W body p) (hb : PSsd X cl xc W orelse q) : PSd X cl xc W (.If c body orelse pos) (dIfS t p q) :=
  ps_imp (ps_if h ha hb) fun Dn σ H hq => tS_T hq fun k H1 q => by
    cases k with
    | true => rw [if_pos rfl]; exact q
    | false => rw [if_neg (by decide)]; exact q
/-! targets -/
theorem g_nm {js : List Nat} {i : Nat} {x : Str} (hj : i ∈ js) (hN : X.N.Nodup) (hi : X.N[i]? = some x) (hx : Loc X.env.scope x) (hf : X.fn x = true ∨ X.env.scope.names.lookup x = some .local) : PG X (.Name x pos) (tG X.K cl js (gNm i)) := by
  refine ⟨fun pins s σ H v u Q I r h => ?_⟩
  refine (pg_name hN hi hx hf).run pins s σ H v u Q I r ?_
  obtain ⟨φ, fd, fv, F, m, lv, d, m', rr, e, q⟩ := h
  unfold gNm at e
  split at e
  · rename_i hi; cases e
    exact q F H _ ⟨by simp, fun k hk => by rw [List.getElem?_set_ne (fun e => hk (by rw [← e]; exact hj))]⟩ (rr.store hi)
  · cases e
theorem gs_nil {js : List Nat} : PGs X [] (tGs X.K cl js gsNil) := by
  refine ⟨fun pins s σ H vs us Q I r h => pgs_nil.run pins s σ H vs us Q I r ?_⟩
  obtain ⟨φ, fd, fv, F, m, lv, ds, m', rr, rs, e, q⟩ := h
  cases ds with
  | nil => obtain ⟨rfl, _⟩ := rs; cases e; exact ⟨rfl, q F H σ ⟨rfl, fun _ _ => rfl⟩ rr⟩
  | cons _ _ => cases e
theorem gs_cons {js : List Nat} {tg : TF} {tgs : List D → M → Option M} (h1 : PG X e (tG X.K cl js tg)) (h2 : PGs X es (tGs X.K cl js tgs)) (hs : (assignEach (e :: es) X.env).map (·.2) = assign e X.env :: (assignEach es X.env).map (·.2)) : PGs X (e :: es) (tGs X.K cl js (gsCons tg tgs)) := by
  refine ⟨fun pins s σ H vs us Q I r h => (pgs_cons h1 h2 hs).run pins s σ H vs us Q I r ?_⟩
  obtain ⟨φ, fd, fv, F, m, lv, ds, m', rr, rs, e, q⟩ := h
  cases ds with
  | nil => cases e
  | cons d ds =>
    obtain ⟨v, vr, f1, f2, rfl, ef, r1, r2⟩ := rs
    obtain ⟨rfl, rfl⟩ := List.append_eq_nil_iff.mp ef.symm
    unfold gsCons at e
    simp only at e
    cases eg : tg d m with
    | none => rw [eg] at e; cases e
    | some m1 =>
      rw [eg] at e
      have e : tgs ds m1 = some m' := e
      have rt := rr.tops (rr.wf.addTops r2)
      refine ⟨v, vr, rfl, _, pshs .abs ds fd, pshs .non vr fv, F, m, lv, d, m1, rt.push (rt.wf.dup0 r1), eg, fun F' H' σ' c' r' => ?_⟩
      exact ⟨φ, fd, fv, F', m1, lv, ds, m', r'.untops, r'.wf.toTops.repsOf r2.len r2.allSh, e, fun F2 H2 σ2 c2 r3 => q F2 H2 σ2 ⟨c2.1.trans c'.1, fun i hi => (c2.2 i hi).trans (c'.2 i hi)⟩ r3⟩
theorem g_tup {js : List Nat} {k : Nat} {tgs : List D → M → Option M} {n : Nat} (hc : X.calm = true) (h : PGs X es (tGs X.K cl js tgs)) (hn : (assignEach es X.env).length = n) (hst : (assignEach es X.env).findIdx? (·.1) = none) (hlen : ∀ ds m m', tgs ds m = some m' → ds.length = n) : PG X (.Tuple es k pos) (tG X.K cl js (gTp tgs)) := by
  refine ⟨fun pins s σ H v u Q I r hq => (pg_tup hc h hn hst).run pins s σ H v u Q I r ?_⟩
  obtain ⟨φ, fd, fv, F, m, lv, d, m', rr, e, q⟩ := hq
  unfold gTp at e
  split at e
  · rename_i o xs
    obtain ⟨F1, a, vs, rfl, e1, w1, rb, kb, _⟩ := rr.wf.toTop.openTop
    have hl := hlen _ _ _ e
    rw [frzs_len] at hl
    refine ⟨a, vs, rfl, kb, by rw [rb.len, frzs_len]; exact hl, φ, fd, fv, F1, m, lv, frzs xs, m', rr.pop.with w1, rb, e, q⟩
  · cases e
theorem gsLen0 {ds : List D} {m m' : M} (h : gsNil ds m = some m') : ds.length = 0 := by
  unfold gsNil at h; split at h <;> first | rfl | cases h
theorem gsLen1 {tg : TF} {tgs : List D → M → Option M} {n : Nat} (h : ∀ ds m m', tgs ds m = some m' → ds.length = n) (ds : List D) (m m' : M) (e : gsCons tg tgs ds m = some m') : ds.length = n + 1 := by
  unfold gsCons at e
  split at e
  · rename_i d ds
    cases eg : tg d m with
    | none => rw [eg] at e; cases e
    | some m1 => rw [eg] at e; rw [List.length_cons, h ds m1 m' e]
  · cases e
/-! stores -/
theorem st_set {i : Nat} {x : Str} {p' : Pos} (hN : X.N.Nodup) (hi : X.N[i]? = some x) (hx : Loc X.env.scope x) (he : PEd X cl xc W e f) (hs : swapsWith e (some (.Name x p')) pos.line X.env = pure false) (hf : X.fn x = true ∨ X.env.scope.names.lookup x = some .local) : PSd X cl xc W (.Assign [.Name x p'] e pos) (dAsg (gNm i) f) :=
  ps_imp (ps_set hN hi hx he hs hf) fun Dn σ H hq => tS_E hq fun φ fd fv F H1 m lv x d r q => by
    cases e : gNm i d m with
    | none => simp only [e] at q; exact q.elim
    | some m1 =>
      simp only [e] at q
      unfold gNm at e
      split at e
      · rename_i hi; cases e
        exact q F H1 _ (r.store hi)
      · cases e
theorem st_asg {js : List Nat} {tg : Expr} {g : TF} (he : PEd X cl xc W e f) (hg : PG X tg (tG X.K cl js g)) (hs : swapsWithSole [tg] e pos.line X.env = pure false) (hw : swappedStores [tg] e X.env = pure none) (h1 : (assignEach [tg] X.env).map (·.2) = [assign tg X.env]) : PSd X cl xc W (.Assign [tg] e pos) (dAsg g f) :=
  ps_imp (ps_asg he hg hs hw h1) fun Dn σ H hq => tS_E hq fun φ fd fv F H1 m lv x d r q => by
    cases e : g d m with
    | none => simp only [e] at q; exact q.elim
    | some m1 =>
      simp only [e] at q
      exact ⟨φ, fd, fv, F, m, lv, d, m1, r, e, fun F' H' σ' _ r' => q F' H' σ' r'⟩
/-! loops -/
theorem loop_w {n : Nat} {φ : Type} {fd : φ → D} {fv : φ → V} {lv : List V} {Dn : Ends} : True := trivial
theorem st_while {N : Nat} (hp : PassesOwn (model X.prog X.w) X.A X.env X.xe) (hc : PTd X cl xc W c t) (hb : PSsd X cl xc W body p) : PSd X cl xc W (.While c body [] pos) (loopW t p N) :=
  ps_imp (ps_while hp hc hb) fun Dn σ H hq => by
    obtain ⟨φ, fd, fv, F, m, lv, r, q⟩ := tS_post.mp hq
    refine ⟨fun n σ H => ∃ F m, Rel X.K cl fd fv F H σ m lv ∧ PostS X.K cl xc W fd fv lv Dn (loopW t p n m), ⟨N, F, m, r, q⟩, ?_⟩
    rintro n σ H ⟨F, m, r, q⟩
    cases n with
    | zero => exact q.elim
    | succ n =>
      unfold loopW at q
      refine ⟨φ, fd, fv, F, m, lv, r, ?_⟩
      cases e : t m with
      | no => rw [e] at q; exact q
      | ex c k m1 => rw [e] at q; exact fun F' H' dx r' => q F' H' σ dx r'
      | ok k m1 =>
        rw [e] at q
        intro F1 H1 r1
        cases k with
        | false => rw [if_neg (by decide)]; exact q F1 H1 σ r1
        | true =>
          rw [if_pos rfl]
          have q : PostS X.K cl xc W fd fv lv Dn ((p m1).bind fun fl m => match fl with
            | .nx => loopW t p n m
            | .ct => loopW t p n m
            | .bk => .ok .nx m
            | .rt d => .ok (.rt d) m) := q
          refine ⟨fun σ H => ∃ F m, Rel X.K cl fd fv F H σ m lv ∧ PostS X.K cl xc W fd fv lv Dn (loopW t p n m), fun σ' H' h => ⟨n, Nat.lt_succ_self n, h⟩, tS_post.mpr ⟨φ, fd, fv, F1, m1, lv, r1, ?_⟩⟩
          cases e2 : p m1 with
          | no => rw [e2] at q; exact q
          | ex c k m2 => rw [e2] at q; exact q
          | ok fl m2 =>
            rw [e2] at q
            cases fl with
            | nx => exact fun F' H' σ' r' => ⟨F', m2, r', q⟩
            | ct => exact fun F' H' σ' r' => ⟨F', m2, r', q⟩
            | bk => exact q
            | rt d => exact q
theorem post_bk {φ : Type} {fd : φ → D} {fv : φ → V} {lv : List V} {Dn : Ends} {hd : List D} {hv : List V} {r : R Fl} (h : PostS X.K cl xc W fd fv lv Dn r) : PostS X.K cl xc W (pshs .abs hd fd) (pshs .non hv fv) lv Dn r := by
  cases r with
  | ok fl m =>
    cases fl with
    | nx => exact fun F' H' σ' r' => h F' H' σ' r'.untops
    | bk => exact fun F' H' σ' r' => h F' H' σ' r'.untops
    | ct => exact fun F' H' σ' r' => h F' H' σ' r'.untops
    | rt d =>
      refine fun F' H' σ' v r' => h F' H' σ' v ?_
      exact r'.pop.untops.push (r'.wf.toTop.map (fun a => match a with | none => some none | some (.fr r) => some (some (.fr (.inr r))) | some (.l k) => some (some (.l k)) | some (.s i) => some (some (.s i))) (fun a b r h1 h2 => by
        have e := h1.trans h2.symm
        rcases a with _ | (a | a | a) <;> rcases b with _ | (b | b | b) <;> first | rfl | (simp at e; done) | (simp at e; subst e; rfl)) (fun a r h => by rcases a with _ | (a | a | a) <;> (cases h; exact ⟨rfl, rfl⟩)) (fun a h => by rcases a with _ | (a | a | a) <;> cases h))
  | ex c n m => exact fun F' H' σ' dx r' => h F' H' σ' dx r'.untops
  | no => exact h
theorem st_for {js : List Nat} {tg iter : Expr} {it : M → R Itr} {g : TF} (hp : PassesOwn (model X.prog X.w) X.A X.env X.xe) (hc : X.calm = true) (hi : PI X tg iter (tI X.K cl xc W it)) (hg : PG X tg (tG X.K cl js g)) (hb : PSsd X cl xc W body p)
    (hs : ∀ x, foldedSetIterable iter X.env x = pure x) : PSd X cl xc W (.For tg iter body [] pos) (dFor it g p) :=
  ps_imp (ps_for hp hc hi hg hb hs) fun Dn σ H hq => by
    obtain ⟨φ, fd, fv, F, m, lv, r, q⟩ := tS_post.mp hq
    refine ⟨φ, fd, fv, F, m, lv, r, ?_⟩
    unfold dFor at q
    cases e : it m with
    | no => rw [e] at q; exact q
    | ex c k m1 => rw [e] at q; exact fun F' H' dx r' => q F' H' σ dx r'
    | ok w m1 =>
      rw [e] at q
      intro F1 H1 hv J hlen r1 hJ
      have q : PostS X.K cl xc W fd fv lv Dn (loopF g p w.items m1) := q
      refine ⟨fun i n σ H => n = w.items.length - i ∧ i ≤ w.items.length ∧ ∃ F m, Rel X.K cl (pshs .abs w.hold fd) (pshs .non hv fv) F H σ m lv ∧ PostS X.K cl xc W fd fv lv Dn (loopF g p (w.items.drop i) m),
        ⟨w.items.length, by simp, Nat.zero_le _, F1, m1, r1, by simpa using q⟩, ?_⟩
      rintro i n σ H ⟨rfl, hi, F, m, r, q⟩
      obtain ⟨step, stop⟩ := hJ _ _ _ F H r.wf.toTops
      by_cases hlt : i < w.items.length
      · right
        obtain ⟨go, yld⟩ := step i w.items[i] (List.getElem?_eq_getElem hlt)
        refine ⟨go, fun σ' H' => ∃ F m, Rel X.K cl (pshs .abs w.hold fd) (pshs .non hv fv) F H' σ' m lv ∧ PostS X.K cl xc W fd fv lv Dn (loopF g p (w.items.drop (i + 1)) m), fun σ' H' h => ⟨_, by omega, rfl, hlt, h⟩, fun x H' y => ?_⟩
        obtain ⟨F', w'⟩ := yld x H' y
        rw [List.drop_eq_getElem_cons hlt] at q
        unfold loopF at q
        cases eg : g w.items[i] m with
        | none => rw [eg] at q; exact q.elim
        | some m2 =>
          rw [eg] at q
          have q : PostS X.K cl xc W fd fv lv Dn ((p m2).bind fun fl m => match fl with
            | .nx => loopF g p (w.items.drop (i + 1)) m
            | .ct => loopF g p (w.items.drop (i + 1)) m
            | .bk => .ok .nx m
            | .rt d => .ok (.rt d) m) := q
          have rp : Rel X.K cl (psh w.items[i] (pshs .abs w.hold fd)) (psh x (pshs .non hv fv)) F' H' σ m lv := by
            refine r.push ?_
            refine w'.map (fun a => match a with | none => some none | some (.fr (.inl i)) => some (some (.inl i)) | some (.fr (.inr r)) => some (some (.inr (.fr r))) | some (.l k) => some (some (.inr (.l k))) | some (.s i) => some (some (.inr (.s i)))) (fun a b r h1 h2 => ?_) (fun a r h => ?_) (fun a h => ?_)
            · have e := h1.trans h2.symm
              rcases a with _ | ((a | a) | a | a) <;> rcases b with _ | ((b | b) | b | b) <;> first | rfl | (simp at e; done) | (simp at e; subst e; rfl)
            · rcases a with _ | ((a | a) | a | a) <;> (cases h; exact ⟨rfl, rfl⟩)
            · rcases a with _ | ((a | a) | a | a) <;> cases h
          refine ⟨_, _, _, F', m, lv, w.items[i], m2, rp, eg, fun F2 H2 σ2 _ r2 => tS_post.mpr ⟨_, _, _, F2, m2, lv, r2, ?_⟩⟩
          cases e2 : p m2 with
          | no => rw [e2] at q; exact q
          | ex c k m3 => rw [e2] at q; exact post_bk (Dn := Dn) (r := .ex c k m3) q
          | ok fl m3 =>
            rw [e2] at q
            cases fl with
            | nx => exact fun F' H' σ' r' => ⟨F', m3, r', q⟩
            | ct => exact fun F' H' σ' r' => ⟨F', m3, r', q⟩
            | bk => exact fun F' H' σ' r' => q F' H' σ' r'.untops
            | rt d => exact post_bk (Dn := Dn) (r := .ok (.rt d) m3) q
      · left
        have ei : i = w.items.length := by omega
        subst ei
        rw [List.drop_length] at q
        exact ⟨stop, q F H σ r.untops⟩
end
end Rf
namespace Rf
open PySem L2
/-! what is walked -/
def ilist (lo c : Int) (n : Nat) : List D := (List.range n).map fun (k : Nat) => .int (lo + (k : Int) * c)
theorem ilist_len (lo c : Int) (n : Nat) : (ilist lo c n).length = n := by simp [ilist]
theorem ilist_at {lo c : Int} {n i : Nat} {d : D} (h : (ilist lo c n)[i]? = some d) : i < n ∧ d = .int (lo + (i : Int) * c) := by
  unfold ilist at h
  rw [List.getElem?_map] at h
  cases e : (List.range n)[i]? with
  | none => rw [e] at h; cases h
  | some k =>
    rw [e] at h
    obtain ⟨h1, h2⟩ := List.getElem?_eq_some_iff.mp e
    have hi : i < n := by simpa using h1
    have : k = i := by rw [← h2]; simp
    subst this
    exact ⟨hi, by simpa using h.symm⟩
theorem lim62 {i : Int} (h : i.natAbs < 4611686018427387904) : -4611686018427387904 ≤ i ∧ i < 4611686018427387904 := by omega
def r1It : List D → Option Itr
  | [.int j] => if j.natAbs < 4611686018427387904 then some ⟨[], ilist 0 1 j.toNat⟩ else none
  | _ => none
def r2It : List D → Option Itr
  | [.int i, .int j] => if i.natAbs < 4611686018427387904 ∧ j.natAbs < 4611686018427387904 then some ⟨[], ilist i 1 (j - i).toNat⟩ else none
  | _ => none
def r3It : List D → Option Itr
  | [.int i, .int j, .int c] => if c ≠ 0 ∧ c.natAbs < 1073741824 ∧ Builtin.Range.small i j c = true ∧ Builtin.Range.rangeSize i j c = ((Builtin.Range.rangeSize i j c).toNat : Int) then some ⟨[], ilist i c (Builtin.Range.rangeSize i j c).toNat⟩ else none
  | _ => none
def iR (op : List D → Option Itr) (g : M → R (List D)) : M → R Itr := fun m => (g m).bind fun xs m => ofO (op xs) m
theorem r1It_some {ds : List D} {w : Itr} (h : r1It ds = some w) : ∃ j, ds = [.int j] ∧ j.natAbs < 4611686018427387904 ∧ w = ⟨[], ilist 0 1 j.toNat⟩ := by
  unfold r1It at h
  split at h
  · split at h
    · rename_i j hj; exact ⟨j, rfl, hj, (Option.some.inj h).symm⟩
    · cases h
  · cases h
theorem r2It_some {ds : List D} {w : Itr} (h : r2It ds = some w) : ∃ i j, ds = [.int i, .int j] ∧ i.natAbs < 4611686018427387904 ∧ j.natAbs < 4611686018427387904 ∧ w = ⟨[], ilist i 1 (j - i).toNat⟩ := by
  unfold r2It at h
  split at h
  · split at h
    · rename_i i j hj; exact ⟨i, j, rfl, hj.1, hj.2, (Option.some.inj h).symm⟩
    · cases h
  · cases h
theorem r3It_some {ds : List D} {w : Itr} (h : r3It ds = some w) : ∃ i j c, ds = [.int i, .int j, .int c] ∧ (c ≠ 0 ∧ c.natAbs < 1073741824 ∧ Builtin.Range.small i j c = true ∧ Builtin.Range.rangeSize i j c = ((Builtin.Range.rangeSize i j c).toNat : Int)) ∧ w = ⟨[], ilist i c (Builtin.Range.rangeSize i j c).toNat⟩ := by
  unfold r3It at h
  split at h
  · split at h
    · rename_i i j c hj; exact ⟨i, j, c, rfl, hj, (Option.some.inj h).symm⟩
    · cases h
  · cases h
def signs (s : Str) : List D := s.cps.toList.map fun c => .str ⟨#[c]⟩
def iV (f : M → R D) : M → R Itr := fun m => (f m).bind fun d m => match d with
  | .obj o .lst xs => .ok ⟨[frz (.obj o .lst xs)], kids (frz (.obj o .lst xs))⟩ m
  | .obj o .tup xs => .ok ⟨[frz (.obj o .tup xs)], kids (frz (.obj o .tup xs))⟩ m
  | .str s => .ok ⟨[], signs s⟩ m
  | _ => .no
def pairs : List D → List D → List D
  | x :: xs, y :: ys => .obj .own .tup [x, y] :: pairs xs ys
  | _, _ => []
def numbered (n : Nat) : List D → List D
  | [] => []
  | x :: xs => .obj .own .tup [.int n, x] :: numbered (n + 1) xs
def iZp (g : M → R (List D)) : M → R Itr := fun m => (g m).bind fun xs m => match xs with
  | [.obj o .lst xs, .obj o' .lst ys] => .ok ⟨[frz (.obj o .lst xs), frz (.obj o' .lst ys)], pairs (kids (frz (.obj o .lst xs))) (kids (frz (.obj o' .lst ys)))⟩ m
  | _ => .no
def iEn (g : M → R (List D)) : M → R Itr := fun m => (g m).bind fun xs m => match xs with
  | [.obj o .lst xs] => .ok ⟨[frz (.obj o .lst xs)], numbered 0 (kids (frz (.obj o .lst xs)))⟩ m
  | _ => .no
theorem pairs_at : ∀ {xs ys : List D} {i : Nat} {d : D}, (pairs xs ys)[i]? = some d → ∃ x y, xs[i]? = some x ∧ ys[i]? = some y ∧ d = .obj .own .tup [x, y]
  | x :: xs, y :: ys, 0, d, h => by simp [pairs] at h; exact ⟨x, y, rfl, rfl, h.symm⟩
  | x :: xs, y :: ys, i + 1, d, h => by
    simp only [pairs, List.getElem?_cons_succ] at h
    exact pairs_at (xs := xs) (ys := ys) h
  | [], _, _, _, h => by simp [pairs] at h
  | _ :: _, [], _, _, h => by simp [pairs] at h
theorem pairs_len : ∀ {xs ys : List D}, xs.length ≤ (pairs xs ys).length ∨ ys.length ≤ (pairs xs ys).length
  | x :: xs, y :: ys => by
    simp only [pairs, List.length_cons]
    rcases pairs_len (xs := xs) (ys := ys) with h | h
    · exact .inl (by omega)
    · exact .inr (by omega)
  | [], _ => .inl (by simp)
  | _ :: _, [] => .inr (by simp)
theorem numbered_at : ∀ {xs : List D} {n i : Nat} {d : D}, (numbered n xs)[i]? = some d → ∃ x, xs[i]? = some x ∧ d = .obj .own .tup [.int ((n + i : Nat) : Int), x]
  | x :: xs, n, 0, d, h => by simp [numbered] at h; exact ⟨x, rfl, by rw [← h]; simp⟩
  | x :: xs, n, i + 1, d, h => by
    simp only [numbered, List.getElem?_cons_succ] at h
    obtain ⟨y, h1, h2⟩ := numbered_at h
    exact ⟨y, by simpa using h1, by rw [h2, show n + 1 + i = n + (i + 1) by omega]⟩
  | [], _, _, _, h => by simp [numbered] at h
theorem numbered_len : ∀ {xs : List D} {n : Nat}, (numbered n xs).length = xs.length
  | [], _ => rfl
  | x :: xs, n => by simp [numbered, numbered_len]
section
variable {K : PySem.W.Frag} {cl : Nat → Addr} {F H : Hp} {ι : Type} {rd : ι → D} {rv : ι → V}
theorem its_range {lo c : Int} {n : Nat} : ItS K cl (Itc lo c n) [] [] (ilist lo c n) := fun ι rd rv F H w =>
  ⟨fun i d hd => by
    obtain ⟨hi, rfl⟩ := ilist_at hd
    refine ⟨hi, fun x H' y => ?_⟩
    obtain ⟨rfl, rfl⟩ := y
    exact ⟨F, w.dup0 ⟨rfl, rfl⟩⟩, by rw [ilist_len]; exact Nat.le_refl _⟩
theorem its_range1 {lo : Int} {n : Nat} : ItS K cl (L2.Itr lo n) [] [] (ilist lo 1 n) := fun ι rd rv F H w =>
  ⟨fun i d hd => by
    obtain ⟨hi, rfl⟩ := ilist_at hd
    refine ⟨hi, fun x H' y => ?_⟩
    obtain ⟨rfl, rfl⟩ := y
    exact ⟨F, w.dup0 ⟨by rw [Int.mul_one], rfl⟩⟩, by rw [ilist_len]; exact Nat.le_refl _⟩
theorem its_str {s : Str} : ItS K cl (Its s) [] [] (signs s) := fun ι rd rv F H w =>
  ⟨fun i d hd => by
    unfold signs at hd
    rw [List.getElem?_map] at hd
    cases e : s.cps.toList[i]? with
    | none => rw [e] at hd; cases hd
    | some c =>
      rw [e] at hd
      have hd : D.str ⟨#[c]⟩ = d := by simpa using hd
      subst hd
      have hi : i < s.cps.size := by simpa using (List.getElem?_eq_some_iff.mp e).1
      refine ⟨hi, fun x H' y => ?_⟩
      obtain ⟨rfl, c', hc, rfl⟩ := y
      have : c' = c := by
        rw [Array.getElem?_toList] at e
        exact Option.some.inj (hc.symm.trans e)
      subst this
      exact ⟨F, w.dup0 ⟨rfl, rfl⟩⟩, by unfold signs; rw [List.length_map, Array.length_toList]; exact Nat.le_refl _⟩
/-- a shared row -/
theorem kids_sh {o : Ow} {k : Kd} {xs : List D} {v : V} {fp : List Addr} (r : Rep K cl F H (frz (.obj o k xs)) v fp) (e : Ex F H) : ∃ a vs, v = .ref a ∧ kRd K cl H a k vs ∧ Reps K cl F H (kids (frz (.obj o k xs))) vs [] := by
  unfold Rf.frz at r ⊢
  cases o with
  | own =>
    rw [if_pos rfl] at r ⊢
    obtain ⟨a, vs, fps, rfl, n, rs⟩ := r
    have n' := n.rd e
    obtain ⟨_, _, rfl⟩ := n
    exact ⟨a, vs, rfl, n', rs⟩
  | shr =>
    rw [if_neg (by decide)] at r ⊢
    obtain ⟨a, vs, fps, rfl, n, rs⟩ := r
    have n' := n.rd e
    obtain ⟨_, _, rfl⟩ := n
    exact ⟨a, vs, rfl, n', rs⟩
  | con =>
    rw [if_neg (by decide)] at r ⊢
    obtain ⟨a, vs, fps, rfl, n, rs⟩ := r
    have n' := n.rd e
    obtain ⟨_, _, rfl⟩ := n
    exact ⟨a, vs, rfl, n', rs⟩
theorem WF.repAt {d : D} {v : V} {hs : List D} {hv : List V} {i : Nat} (w : WF K cl F H (pshs .abs hs rd) (pshs .non hv rv)) (h1 : hs[i]? = some d) (h2 : hv[i]? = some v) : ∃ f, Rep K cl F H d v f := by
  obtain ⟨fp, q, _⟩ := w.fp
  have r := q (.inl i)
  have r : Rep K cl F H (hs[i]?.getD .abs) (hv[i]?.getD .non) (fp (.inl i)) := r
  rw [h1, h2] at r
  exact ⟨_, r⟩
theorem its_list {o : Ow} {xs : List D} {a : Addr} : ItS K cl (Itl K a) [frz (.obj o .lst xs)] [.ref a] (kids (frz (.obj o .lst xs))) := fun ι rd rv F H w => by
  obtain ⟨f, r⟩ := w.repAt (i := 0) rfl rfl
  obtain ⟨a', vs, e, kr, rs⟩ := kids_sh r w.ex
  cases e
  have kr : SqL K H a vs := kr
  refine ⟨fun i d hd => ?_, ⟨vs, kr, by rw [rs.len]; exact Nat.le_refl _⟩⟩
  obtain ⟨v, hv, rv'⟩ := rs.at0 hd
  refine ⟨⟨vs, v, kr, hv⟩, fun x H' y => ?_⟩
  obtain ⟨rfl, hy⟩ := y
  have : x = v := Option.some.inj ((hy vs kr).symm.trans hv)
  subst this
  exact ⟨F, w.dup0 rv'⟩
theorem its_tup {o : Ow} {xs : List D} {a : Addr} : ItS K cl (Itt K a) [frz (.obj o .tup xs)] [.ref a] (kids (frz (.obj o .tup xs))) := fun ι rd rv F H w => by
  obtain ⟨f, r⟩ := w.repAt (i := 0) rfl rfl
  obtain ⟨a', vs, e, kr, rs⟩ := kids_sh r w.ex
  cases e
  have kr : SqT K H a vs := kr
  refine ⟨fun i d hd => ?_, ⟨vs, kr, by rw [rs.len]; exact Nat.le_refl _⟩⟩
  obtain ⟨v, hv, rv'⟩ := rs.at0 hd
  refine ⟨⟨vs, v, kr, hv⟩, fun x H' y => ?_⟩
  obtain ⟨rfl, hy⟩ := y
  have : x = v := Option.some.inj ((hy vs kr).symm.trans hv)
  subst this
  exact ⟨F, w.dup0 rv'⟩
theorem its_zip {o o' : Ow} {xs ys : List D} {a b : Addr} : ItS K cl (Itz K a b) [frz (.obj o .lst xs), frz (.obj o' .lst ys)] [.ref a, .ref b] (pairs (kids (frz (.obj o .lst xs))) (kids (frz (.obj o' .lst ys)))) := fun ι rd rv F H w => by
  obtain ⟨f, r⟩ := w.repAt (i := 0) rfl rfl
  obtain ⟨f', r'⟩ := w.repAt (i := 1) rfl rfl
  obtain ⟨a', vs, e, kr, rs⟩ := kids_sh r w.ex
  obtain ⟨b', us, e', kr', rs'⟩ := kids_sh r' w.ex
  cases e; cases e'
  have kr : SqL K H a vs := kr
  have kr' : SqL K H b us := kr'
  refine ⟨fun i d hd => ?_, ⟨vs, us, kr, kr', by rw [rs.len, rs'.len]; exact pairs_len⟩⟩
  obtain ⟨x, y, hx, hy, rfl⟩ := pairs_at hd
  obtain ⟨v, hv, q⟩ := rs.at0 hx
  obtain ⟨u, hu, q'⟩ := rs'.at0 hy
  refine ⟨⟨vs, us, v, u, kr, kr', hv, hu⟩, fun z H' yl => ?_⟩
  obtain ⟨T, z1, z2, rfl, hT, rfl, g1, g2⟩ := yl
  have e1 : z1 = v := Option.some.inj ((g1 vs kr).symm.trans hv)
  have e2 : z2 = u := Option.some.inj ((g2 us kr').symm.trans hu)
  subst e1; subst e2
  exact ⟨F, w.newSh ((Reps.one q).app0 (Reps.one q')) hT rfl⟩
theorem its_enum {o : Ow} {xs : List D} {a : Addr} : ItS K cl (Ite K a) [frz (.obj o .lst xs)] [.ref a] (numbered 0 (kids (frz (.obj o .lst xs)))) := fun ι rd rv F H w => by
  obtain ⟨f, r⟩ := w.repAt (i := 0) rfl rfl
  obtain ⟨a', vs, e, kr, rs⟩ := kids_sh r w.ex
  cases e
  have kr : SqL K H a vs := kr
  refine ⟨fun i d hd => ?_, ⟨vs, kr, by rw [rs.len, numbered_len]; exact Nat.le_refl _⟩⟩
  obtain ⟨x, hx, rfl⟩ := numbered_at hd
  obtain ⟨v, hv, q⟩ := rs.at0 hx
  refine ⟨⟨vs, v, kr, hv⟩, fun z H' yl => ?_⟩
  obtain ⟨T, z1, rfl, hT, rfl, g1⟩ := yl
  have e1 : z1 = v := Option.some.inj ((g1 vs kr).symm.trans hv)
  subst e1
  refine ⟨F, w.newSh (ds := [.int ((0 + i : Nat) : Int), x]) (vs := [.int (i : Int), z1]) ?_ hT rfl⟩
  exact (Reps.one (d := .int ((0 + i : Nat) : Int)) (v := .int (i : Int)) ⟨by rw [Nat.zero_add], rfl⟩).app0 (Reps.one q)
end
section
variable {X : Cx} {cl : Nat → Addr} {xc : XC} {W : WX} {e a b c tg : Expr} {es : List Expr} {f g : M → R D} {ga : M → R (List D)} {pos : Pos}
/-- behind an argument list, what is walked -/
theorem tA_I {h : List D → M → R Itr} {σ : St} {H : Hp} {Rr : It → Hp → Prop} {P : List V → Hp → Prop} (q : tI X.K cl xc W (fun m => (ga m).bind h) σ H Rr)
    (hp : ∀ (φ : Type) (fd : φ → D) (fv : φ → V) (F H1 : Hp) (m : M) (lv : List V) (vs : List V) (ds : List D), vs.length = ds.length → Rel X.K cl (pshs .abs ds fd) (pshs .non vs fv) F H1 σ m lv → (match h ds m with
      | .ok w m' => ∀ (F' H' : Hp) (hv : List V) (J : It), hv.length = w.hold.length → Rel X.K cl (pshs .abs w.hold fd) (pshs .non hv fv) F' H' σ m' lv → ItS X.K cl J w.hold hv w.items → Rr J H'
      | .ex c n m' => ∀ (F' H' : Hp) (dx : Option Addr), Rel X.K cl fd fv F' H' σ m' lv → ExcAt xc c n dx H' → W (.ref (xc.cls c)) dx σ H'
      | .no => False) → P vs H1) : tA X.K cl xc W ga σ H P := by
  obtain ⟨φ, fd, fv, F, m, lv, r, q⟩ := q
  refine ⟨φ, fd, fv, F, m, lv, r, ?_⟩
  cases e : ga m with
  | ok ds m1 =>
    simp only [e, R.bind] at q ⊢
    exact fun F' H' vs hl r' => hp φ fd fv F' H' m1 lv vs ds hl r' q
  | ex c n m1 => simpa only [e, R.bind] using q
  | no => simp only [e, R.bind] at q
theorem pi_imp {t t' : TI} (h : PI X tg e t) (i : ∀ σ H Q, t' σ H Q → t σ H Q) : PI X tg e t' := ⟨fun pins s σ H Q I q => h.run pins s σ H Q I (i σ H Q q)⟩
theorem int_of {K : PySem.W.Frag} {F H : Hp} {ι : Type} {rd : ι → D} {rv : ι → V} {ds : List D} {vs : List V} {i : Nat} {j : Int} (w : WF K cl F H (pshs .abs ds rd) (pshs .non vs rv)) (hl : vs.length = ds.length) (h : ds[i]? = some (.int j)) : vs[i]? = some (.int j) := by
  obtain ⟨v, hv⟩ : ∃ v, vs[i]? = some v := by
    have := (List.getElem?_eq_some_iff.mp h).1
    exact ⟨vs[i], List.getElem?_eq_getElem (by omega)⟩
  obtain ⟨f, r⟩ := w.repAt h hv
  rw [hv, r.1]
theorem tR_I {op : List D → Option Itr} {σ : St} {H : Hp} {Rr : It → Hp → Prop} {P : List V → Hp → Prop} (q : tI X.K cl xc W (iR op ga) σ H Rr)
    (hp : ∀ (H1 : Hp) (vs : List V) (ds : List D) (w : Itr), op ds = some w → vs.length = ds.length → (∀ (i : Nat) (j : Int), ds[i]? = some (.int j) → vs[i]? = some (.int j)) → (w.hold = [] → ∀ J, ItS X.K cl J [] [] w.items → Rr J H1) → P vs H1) : tA X.K cl xc W ga σ H P :=
  tA_I q fun φ fd fv F H1 m lv vs ds hl r q => by
    unfold ofO at q
    cases e : op ds with
    | none => simp only [e] at q
    | some w =>
      simp only [e] at q
      refine hp H1 vs ds w e hl (fun i j h => int_of r.wf.toTops hl h) fun h0 J hJ => ?_
      obtain ⟨hold, items⟩ := w
      have h0 : hold = [] := h0
      subst h0
      exact q F H1 [] J rfl (r.untops.tops r.untops.wf.noTops) hJ
theorem i_r1 {p : Pos} (hg : Gl X "range") (hm : X.mg "range" = none) (ha : PAd X cl xc W [a] ga) (hs : starEach [a] X.env = [(false, eval a X.env)]) : PI X tg (.Call (.Name "range" p) [a] [] pos) (tI X.K cl xc W (iR r1It ga)) :=
  pi_imp (pi_range1 hg hm ha hs) fun σ H Rr q => tR_I q fun H1 vs ds w e hl hi k => by
    obtain ⟨j, rfl, hj, rfl⟩ := r1It_some e
    have h0 := hi 0 j rfl
    have ev : vs = [.int j] := by
      match vs, hl with
      | [v], _ => simp at h0; rw [h0]
    exact ⟨j, ev, (lim62 hj).1, (lim62 hj).2, k rfl _ its_range1⟩
theorem i_r2 {p : Pos} (hg : Gl X "range") (hm : X.mg "range" = none) (ha : PAd X cl xc W [a, b] ga) (hs : starEach [a, b] X.env = [(false, eval a X.env), (false, eval b X.env)]) (hs2 : starEach [b] X.env = [(false, eval b X.env)]) : PI X tg (.Call (.Name "range" p) [a, b] [] pos) (tI X.K cl xc W (iR r2It ga)) :=
  pi_imp (pi_range2 hg hm ha hs hs2) fun σ H Rr q => tR_I q fun H1 vs ds w e hl hi k => by
    obtain ⟨i, j, rfl, h1, h2, rfl⟩ := r2It_some e
    have g0 := hi 0 i rfl
    have g1 := hi 1 j rfl
    have ev : vs = [.int i, .int j] := by
      match vs, hl with
      | [u, v], _ => simp at g0 g1; rw [g0, g1]
    exact ⟨i, j, ev, ⟨(lim62 h1).1, (lim62 h1).2, (lim62 h2).1, (lim62 h2).2⟩, k rfl _ its_range1⟩
theorem i_r3 {p : Pos} (pr : PI X tg (.Call (.Name "range" p) [a, b, c] [] pos) (iRng3 (tA X.K cl xc W ga))) : PI X tg (.Call (.Name "range" p) [a, b, c] [] pos) (tI X.K cl xc W (iR r3It ga)) :=
  pi_imp pr fun σ H Rr q => tR_I q fun H1 vs ds w e hl hi k => by
    obtain ⟨i, j, c, rfl, h1, rfl⟩ := r3It_some e
    have g0 := hi 0 i rfl
    have g1 := hi 1 j rfl
    have g2 := hi 2 c rfl
    have ev : vs = [.int i, .int j, .int c] := by
      match vs, hl with
      | [u, v, w], _ => simp at g0 g1 g2; rw [g0, g1, g2]
    exact ⟨i, j, c, _, ev, h1, k rfl _ its_range⟩
theorem tE_I {h : D → M → R Itr} {σ : St} {H : Hp} {Rr : It → Hp → Prop} {P : VK} (q : tI X.K cl xc W (fun m => (f m).bind h) σ H Rr)
    (hp : ∀ (φ : Type) (fd : φ → D) (fv : φ → V) (F H1 : Hp) (m : M) (lv : List V) (x : V) (d : D), Rel X.K cl (psh d fd) (psh x fv) F H1 σ m lv → (match h d m with
      | .ok w m' => ∀ (F' H' : Hp) (hv : List V) (J : It), hv.length = w.hold.length → Rel X.K cl (pshs .abs w.hold fd) (pshs .non hv fv) F' H' σ m' lv → ItS X.K cl J w.hold hv w.items → Rr J H'
      | .ex c n m' => ∀ (F' H' : Hp) (dx : Option Addr), Rel X.K cl fd fv F' H' σ m' lv → ExcAt xc c n dx H' → W (.ref (xc.cls c)) dx σ H'
      | .no => False) → P x H1) : tE X.K cl xc W f σ H P := by
  obtain ⟨φ, fd, fv, F, m, lv, r, q⟩ := q
  refine ⟨φ, fd, fv, F, m, lv, r, ?_⟩
  cases e : f m with
  | ok ds m1 =>
    simp only [e, R.bind] at q ⊢
    exact fun F' H' x r' => hp φ fd fv F' H' m1 lv x ds r' q
  | ex c n m1 => simpa only [e, R.bind] using q
  | no => simp only [e, R.bind] at q
theorem WF.topOne {K : PySem.W.Frag} {F H : Hp} {ι : Type} {rd : ι → D} {rv : ι → V} {d : D} {v : V} (w : WF K cl F H (psh d rd) (psh v rv)) : WF K cl F H (pshs .abs [d] rd) (pshs .non [v] rv) := by
  have w2 := w.noTops
  exact WF.consTop w2
theorem str_iter {pins : List (Addr × Obj)} {σ : St} {H1 : Hp} {s1 : Shared} {v : Value} {z : Str} {Rr : It → Hp → Prop} (I1 : Inv X pins σ H1 s1) (r1 : RelV (.str z) v) (q : Rr (Its z) H1) : wpAny (model X.prog X.w) X.A (pyIter v) (PIE X pins σ tg Rr) X.xe s1 := by
  obtain ⟨t, rfl⟩ := r1
  by_cases ha : z.cps.all (· < 128) = true
  · exact wpAny_pyIter_ascii ha
      (pi_one (tk := s1.toks) I1 _ (turn_str _ z t "str_ascii_iterator" (.inl rfl)) ⟨_, Heap.get?_push_size _ rfl, rfl, rfl⟩ q)
  · exact wpAny_pyIter_wide (by simpa using ha)
      (pi_one (tk := s1.toks) I1 _ (turn_str _ z t "str_iterator" (.inr rfl)) ⟨_, Heap.get?_push_size _ rfl, rfl, rfl⟩ q)
/-- a list, a tuple, a text walked, as it comes -/
def iAny (K : PySem.W.Frag) (tl : TE) : TI := fun σ H Rr => tl σ H fun x H1 => (∃ a, x = .ref a ∧ (∃ xs, SqL K H1 a xs) ∧ Rr (Itl K a) H1) ∨ (∃ a, x = .ref a ∧ (∃ xs, SqT K H1 a xs) ∧ Rr (Itt K a) H1) ∨ ∃ s, x = .str s ∧ Rr (Its s) H1
theorem pi_any {tl : TE} (hl : PE X e tl) : PI X tg e (iAny X.K tl) := by
  refine ⟨fun pins s σ H Rr I h => ?_⟩
  have both : ∀ (v : Value) (s1 : Shared) (x : V) (H1 : Hp), Inv X pins σ H1 s1 → RelV x v → ((∃ a, x = .ref a ∧ (∃ xs, SqL X.K H1 a xs) ∧ Rr (Itl X.K a) H1) ∨ (∃ a, x = .ref a ∧ (∃ xs, SqT X.K H1 a xs) ∧ Rr (Itt X.K a) H1) ∨ ∃ s, x = .str s ∧ Rr (Its s) H1) →
      wpAny (model X.prog X.w) X.A (pyIter v) (PIE X pins σ tg Rr) X.xe s1 := fun v s1 x H1 I1 r1 q => by
    rcases q with ⟨a, rfl, ⟨xs, hq⟩, q⟩ | ⟨a, rfl, ⟨xs, hq⟩, q⟩ | ⟨z, rfl, q⟩
    · cases r1
      obtain ⟨its, rv, p, hz⟩ := I1.list hq
      refine wpAny_pyIter_list p.isList ?_
      have fr : ∀ b, b ∈ [s1.heap.objs.size] → FpOk X pins H1 b := fun b hb => by
        rw [List.mem_singleton.mp hb]; exact I1.fpOk (Nat.le_refl _) (I1.hok.fresh (Nat.le_refl _))
      exact ⟨_, _, _, _, H1, rfl, I1.kept (t' := s1.toks) (fun b o e => Heap.get?_push_of_some _ e), turn_list a _, ⟨_, Heap.get?_push_size _ rfl, rfl, rfl⟩, fr, q⟩
    · cases r1
      obtain ⟨its, rv, p, hz⟩ := I1.tuple hq
      refine wpAny_pyIter_tuple (show s1.heap.IsTuple a its.toArray from p) ?_
      have fr : ∀ b, b ∈ [s1.heap.objs.size] → FpOk X pins H1 b := fun b hb => by
        rw [List.mem_singleton.mp hb]; exact I1.fpOk (Nat.le_refl _) (I1.hok.fresh (Nat.le_refl _))
      exact ⟨_, _, _, _, H1, rfl, I1.kept (t' := s1.toks) (fun b o e => Heap.get?_push_of_some _ e), turn_tuple a _, ⟨_, Heap.get?_push_size _ rfl, rfl, rfl⟩, fr, q⟩
    · exact str_iter I1 r1 q
  exact thn (hl.run pins s σ H _ I h) fun v s1 ⟨x, H1, I1, r1, q1⟩ => both v s1 x H1 I1 r1 q1
end
end Rf
namespace Rf
open PySem L2
section
variable {K : PySem.W.Frag} {cl : Nat → Addr} {xc : XC} {W : WX} {F H : Hp} {φ : Type} {σ : St} {fd : φ → D} {fv : φ → V} {m : M} {lv : List V}
/-- an owned container at a place of a slot is changed, the temporary on top going in -/
theorem Rel.mutAt {d : D} {v : V} {i : Nat} {p : List Sp1} {k : Kd} {ds : List D} (r : Rel K cl (psh d fd) (psh v fv) F H σ m lv) (hi : isAbs (rd m i) = false) (hg : dget (rd m i) p = some (.obj .own k ds)) (hd : down (rd m i) p = true) :
    ∃ a vs u f', VAt K cl H p (rd m i) (cV σ lv fv (root φ m i)) (.ref a) ∧ H a = some u ∧ kHO cl k vs u ∧ vs.length = ds.length ∧ Rep K cl F H d v f' ∧ ∀ (u' : HO) (k' : Kd) (ds' : List D) (vs' : List V), kHO cl k' vs' u' →
      (∀ fps, Reps K cl F H ds vs fps → (fps ++ f').Nodup → ∃ fq, Reps K cl F H ds' vs' fq ∧ fq.Nodup ∧ ∀ b, b ∈ fq → b ∈ fps ++ f') →
        Rel K cl fd fv F (upd H a u') σ (Rf.wr m i (dput (rd m i) p (.obj .own k' ds'))) lv := by
  obtain ⟨q1, q2⟩ := r.pop.at hi
  obtain ⟨a, vs, u, f', h1, h2, h3, h4, h5, h6⟩ := r.wf.toTop.mutAt (root φ m i) (p := p) (by rw [q1]; exact hg) (by rw [q1]; exact hd)
  rw [q1] at h1
  refine ⟨a, vs, u, f', h1, h2, h3, h4, h5, fun u' k' ds' vs' hu hq => r.pop.wr hi ?_⟩
  have := h6 u' k' ds' vs' hu hq
  rw [q1] at this
  exact this
theorem Rel.dummy (r : Rel K cl fd fv F H σ m lv) : Rel K cl (psh .abs fd) (psh .non fv) F H σ m lv := r.push (r.wf.dup0 rfl)
theorem dput_nil {d x : D} : dput d [] x = x := by unfold dput; rfl
theorem down_nil {d : D} : down d [] = true := by unfold down; rfl
theorem dget_nil {d : D} : dget d [] = some d := by unfold dget; rfl
end
def isLst : D → Bool
  | .obj _ .lst _ => true
  | _ => false
/-- xs.append(e), xs a name -/
def dApp (i : Nat) (f : M → R D) : M → R Fl := fun m => if isLst (rd m i) then (f m).bind fun d m => match rd m i with
    | .obj .own .lst xs => if xs.length < sizeLine then .ok .nx (wr m i (.obj .own .lst (xs ++ [d]))) else .no
    | _ => .no
  else .no
/-- xs.extend(e) -/
def extS (i : Nat) (d : D) (m : M) : R Fl := match rd m i, d with
  | .obj .own .lst xs, .obj o .lst ys => if o ≠ .con ∧ xs.length + ys.length ≤ sizeLine then .ok .nx (wr m i (.obj .own .lst (xs ++ frzs ys))) else .no
  | _, _ => .no
def dExt (i : Nat) (f : M → R D) : M → R Fl := fun m => if isLst (rd m i) then (f m).bind (extS i) else .no
/-- place.append(s) -/
def dAppP (i : Nat) (ps : List Stp) (s : SF) : M → R Fl := fun m => match resolve m (rd m i) ps, s m with
  | some (p, .obj .own .lst xs), some d => if xs.length < sizeLine ∧ isSc d = true ∧ down (rd m i) p = true then .ok .nx (wr m i (dput (rd m i) p (.obj .own .lst (xs ++ [d])))) else .no
  | _, _ => .no
/-- place[s] = e -/
def dSetIx (i : Nat) (ps : List Stp) (s : SF) (f : M → R D) : M → R Fl := fun m => (f m).bind fun d m => match resolve m (rd m i) ps, s m with
  | some (p, .obj .own .lst xs), some (.int k) => if down (rd m i) p = true then match ixN xs.length k with
      | some j => .ok .nx (wr m i (dput (rd m i) p (.obj .own .lst (xs.set j d))))
      | none => .no
    else .no
  | _, _ => .no
/-- place.f = e -/
def putN (f : Str) (ns : List Str) (ds : List D) (d : D) : List Str × List D := match ns.findIdx? (fun x => decide (x = f)) with
  | some j => (ns, ds.set j d)
  | none => (ns ++ [f], ds ++ [d])
def dSetA (i : Nat) (ps : List Stp) (cs : List Nat) (a : Str) (f : M → R D) : M → R Fl := fun m => (f m).bind fun d m => match resolve m (rd m i) ps with
  | some (p, .obj .own (.ins c ns) ds) => if down (rd m i) p = true ∧ cs.contains c = true ∧ ns.length < 1000 ∧ ns.length = ds.length then .ok .nx (wr m i (dput (rd m i) p (.obj .own (.ins c (putN a ns ds d).1) (putN a ns ds d).2))) else .no
  | _ => .no
/-- x op= s -/
def dAug (i : Nat) (op : D → D → Option D) (s : SF) : M → R Fl := fun m => match toSc (rd m i), s m with
  | some x, some y => match op x y with
    | some z => if i < m.sl.length then .ok .nx (setS m i z) else .no
    | none => .no
  | _, _ => .no
section
variable {X : Cx} {cl : Nat → Addr} {xc : XC} {W : WX} {e a b c tg : Expr} {es : List Expr} {f g : M → R D} {ga : M → R (List D)} {pos apos : Pos}
theorem i_any (h : PEd X cl xc W e f) : PI X tg e (tI X.K cl xc W (iV f)) :=
  pi_imp (pi_any h) fun σ H Rr q => tE_I q fun φ fd fv F H1 m lv x d r q => by
    cases d with
    | str s =>
      obtain ⟨f', rp⟩ := r.wf.toTop.topRep
      exact .inr (.inr ⟨s, rp.1, q F H1 [] _ rfl (r.pop.tops r.pop.wf.noTops) its_str⟩)
    | obj o k xs =>
      cases k with
      | lst =>
        obtain ⟨F', w', r0, _⟩ := r.wf.toTop.frzTop
        obtain ⟨a, vs, rfl, kr, rs⟩ := kids_sh r0 w'.ex
        exact .inl ⟨a, rfl, ⟨vs, kr⟩, q F' H1 [.ref a] _ rfl (r.pop.tops w'.topOne) its_list⟩
      | tup =>
        obtain ⟨F', w', r0, _⟩ := r.wf.toTop.frzTop
        obtain ⟨a, vs, rfl, kr, rs⟩ := kids_sh r0 w'.ex
        exact .inr (.inl ⟨a, rfl, ⟨vs, kr⟩, q F' H1 [.ref a] _ rfl (r.pop.tops w'.topOne) its_tup⟩)
      | _ => exact q.elim
    | _ => exact q.elim
/-- two arguments, both frozen -/
theorem WF.frz2 {K : PySem.W.Frag} {F H : Hp} {ι : Type} {rd : ι → D} {rv : ι → V} {d e : D} {v u : V} (w : WF K cl F H (pshs .abs [d, e] rd) (pshs .non [v, u] rv)) : ∃ F', WF K cl F' H (pshs .abs [frz d, frz e] rd) (pshs .non [v, u] rv) ∧ Rep K cl F' H (frz d) v [] ∧ Rep K cl F' H (frz e) u [] := by
  obtain ⟨F1, w1, r1, e1⟩ := w.frzAt (.inl 0)
  obtain ⟨F2, w2, r2, e2⟩ := w1.frzAt (.inl 1)
  have q1 : fset (pshs D.abs [d, e] rd) (Sum.inl 0) (frz (pshs D.abs [d, e] rd (Sum.inl 0))) (Sum.inl 1) = e := by rw [fset_ne (by simp)]; rfl
  rw [q1] at w2 r2
  refine ⟨F2, w2.map some (fun a b r h1 h2 => by rw [Option.some.inj h1, Option.some.inj h2]) (fun a r h => ?_) (fun a h => by cases h), Rep.mono _ r1 e2 fun b hb => by simp at hb, r2⟩
  cases h
  rcases a with (_ | _ | a) | a
  · rw [fset_ne (by simp), fset_same]; exact ⟨rfl, rfl⟩
  · rw [fset_same]; exact ⟨rfl, rfl⟩
  · rw [fset_ne (by simp), fset_ne (by simp)]; exact ⟨rfl, rfl⟩
  · rw [fset_ne (by simp), fset_ne (by simp)]; exact ⟨rfl, rfl⟩
theorem i_zip {p tp : Pos} {elts : List Expr} {kk : Nat} (hg : Gl X "zip") (hm : X.mg "zip" = none) (ha : PAd X cl xc W [a, b] ga) (hs : starEach [a, b] X.env = (false, eval a X.env) :: starEach [b] X.env) (hpl : (backTo pos (starEach [b] X.env)).any (·.1) = false) :
    PI X (.Tuple elts kk tp) (.Call (.Name "zip" p) [a, b] [] pos) (tI X.K cl xc W (iZp ga)) :=
  pi_imp (pi_zip hg hm ha hs hpl) fun σ H Rr q => tA_I q fun φ fd fv F H1 m lv vs ds hl r q => by
    split at q <;> rename_i heq
    · split at heq
      · rename_i o xs o' ys
        cases heq
        match vs, hl with
        | [v, u], _ =>
          obtain ⟨F', w', r1, r2⟩ := r.wf.toTops.frz2
          obtain ⟨a, us, rfl, kr, rs⟩ := kids_sh r1 w'.ex
          obtain ⟨b, us', rfl, kr', rs'⟩ := kids_sh r2 w'.ex
          exact ⟨a, b, us, us', rfl, kr, kr', q F' H1 [.ref a, .ref b] _ rfl (r.untops.tops w') its_zip⟩
      · cases heq
    · split at heq <;> cases heq
    · exact q.elim
theorem i_enum {p tp : Pos} {elts : List Expr} {kk : Nat} (hg : Gl X "enumerate") (hm : X.mg "enumerate" = none) (ha : PAd X cl xc W [a] ga) (hs : starEach [a] X.env = [(false, eval a X.env)]) :
    PI X (.Tuple elts kk tp) (.Call (.Name "enumerate" p) [a] [] pos) (tI X.K cl xc W (iEn ga)) :=
  pi_imp (pi_enum hg hm ha hs) fun σ H Rr q => tA_I q fun φ fd fv F H1 m lv vs ds hl r q => by
    split at q <;> rename_i heq
    · split at heq
      · rename_i o xs
        cases heq
        match vs, hl with
        | [v], _ =>
          obtain ⟨F', w', r0, _⟩ := r.wf.toTops.oneTop.frzTop
          obtain ⟨a, us, rfl, kr, rs⟩ := kids_sh r0 w'.ex
          exact ⟨a, us, rfl, kr, q F' H1 [.ref a] _ rfl (r.untops.tops w'.topOne) its_enum⟩
      · cases heq
    · split at heq <;> cases heq
    · exact q.elim
/-! ### changes -/
theorem lst_tyV {K : PySem.W.Frag} {F H : Hp} {φ : Type} {fd : φ → D} {fv : φ → V} {σ : St} {m : M} {lv : List V} {i : Nat} (r : Rel K cl fd fv F H σ m lv) (h : isLst (rd m i) = true) : isAbs (rd m i) = false ∧ tyV K "list" (cV σ lv fv (root φ m i)) H := by
  have hi : isAbs (rd m i) = false := by cases e : rd m i <;> first | rfl | (rw [e] at h; cases h)
  refine ⟨hi, ?_⟩
  obtain ⟨q1, q2⟩ := r.at hi
  cases e : rd m i with
  | obj o k ds =>
    rw [e] at h q1
    cases k with
    | lst =>
      obtain ⟨fp, h1, _⟩ := r.wf.fp
      have rp := h1 (root φ m i)
      rw [q1] at rp
      obtain ⟨a, vs, fps, ev, n, rs⟩ := rp
      rw [ev]
      exact .inl ⟨rfl, vs, n.rd r.wf.ex⟩
    | _ => cases h
  | _ => rw [e] at h; cases h
theorem same_v {K : PySem.W.Frag} {F H F' H' : Hp} {φ ψ : Type} {fd : φ → D} {fv : φ → V} {fd' : ψ → D} {fv' : ψ → V} {σ : St} {m m' : M} {lv : List V} {i : Nat} (r : Rel K cl fd fv F H σ m lv) (r' : Rel K cl fd' fv' F' H' σ m' lv) (h : isAbs (rd m i) = false) (h' : isAbs (rd m' i) = false) : cV σ lv fv (root φ m i) = cV σ lv fv' (root ψ m' i) := by
  have e := (r.at h).2.symm.trans (r'.at h').2
  exact Option.some.inj (Option.some.inj e)
theorem st_app {i : Nat} {x : Str} {p1 : Pos} (hx : PEl X cl (.Name x p1) i []) (he : PEd X cl xc W e f) (hbm : ∀ (to te : TE), PE X (.Name x p1) to → PE X e te → PE X (.Call (.Attribute (.Name x p1) "append" apos) [e] [] pos) (tBM X.K "list" rAppend to (tCons te tNil))) {pos' : Pos} (hs : swapsWith (.Call (.Attribute (.Name x p1) "append" apos) [e] [] pos) none pos'.line X.env = pure false) :
    PSd X cl xc W (.Expr (.Call (.Attribute (.Name x p1) "append" apos) [e] [] pos) pos') (dApp i f) :=
  ps_imp (ps_expr (hbm _ _ hx he) hs) fun Dn σ H hq => by
    obtain ⟨φ, fd, fv, F, m, lv, r, q⟩ := tS_post.mp hq
    unfold dApp at q
    cases hl : isLst (rd m i) with
    | false => rw [hl] at q; exact q.elim
    | true =>
      rw [hl, if_pos rfl] at q
      obtain ⟨hi, ty⟩ := lst_tyV r hl
      refine ⟨φ, fd, fv, F, m, lv, r, hi, [], _, _, rfl, rfl, ty, φ, fd, fv, F, m, lv, r, ?_⟩
      cases e : f m with
      | no => rw [e] at q; exact q.elim
      | ex c n m1 => rw [e] at q; exact fun F' H' dx r' => q F' H' σ dx r'
      | ok d m1 =>
        rw [e] at q
        intro F1 H1 v r1
        have q : PostS X.K cl xc W fd fv lv Dn (match rd m1 i with
          | .obj .own .lst xs => if xs.length < sizeLine then .ok .nx (wr m1 i (.obj .own .lst (xs ++ [d]))) else .no
          | _ => .no) := q
        split at q
        · rename_i xs hx
          split at q
          · rename_i hz
            have hi1 : isAbs (rd m1 i) = false := by rw [hx]; rfl
            obtain ⟨a, vs, u, f', va, ha, hu, hlen, rv, put⟩ := r1.mutAt (p := []) hi1 (by rw [dget_nil, hx]) down_nil
            have hu : u = .lst vs := hu
            subst hu
            have ev : cV σ lv fv (root φ m i) = .ref a := (same_v r r1.pop hi hi1).trans (show V.ref a = _ from va).symm
            refine ⟨a, vs, v, ev, rfl, ha, by omega, ?_⟩
            have r2 := put (.lst (vs ++ [v])) .lst (xs ++ [d]) (vs ++ [v]) rfl fun fps rs nd => ⟨fps ++ f', rs.app (Reps.one rv), nd, fun b h => h⟩
            rw [dput_nil] at r2
            exact q F1 _ σ r2
          · exact q.elim
        · exact q.elim
theorem st_ext {i : Nat} {x : Str} {p1 : Pos} (hx : PEl X cl (.Name x p1) i []) (he : PEd X cl xc W e f) (hbm : ∀ (to te : TE), PE X (.Name x p1) to → PE X e te → PE X (.Call (.Attribute (.Name x p1) "extend" apos) [e] [] pos) (tBM X.K "list" rExtend to (tCons te tNil))) {pos' : Pos} (hs : swapsWith (.Call (.Attribute (.Name x p1) "extend" apos) [e] [] pos) none pos'.line X.env = pure false) :
    PSd X cl xc W (.Expr (.Call (.Attribute (.Name x p1) "extend" apos) [e] [] pos) pos') (dExt i f) :=
  ps_imp (ps_expr (hbm _ _ hx he) hs) fun Dn σ H hq => by
    obtain ⟨φ, fd, fv, F, m, lv, r, q⟩ := tS_post.mp hq
    unfold dExt at q
    cases hl : isLst (rd m i) with
    | false => rw [hl] at q; exact q.elim
    | true =>
      rw [hl, if_pos rfl] at q
      obtain ⟨hi, ty⟩ := lst_tyV r hl
      refine ⟨φ, fd, fv, F, m, lv, r, hi, [], _, _, rfl, rfl, ty, φ, fd, fv, F, m, lv, r, ?_⟩
      cases e : f m with
      | no => rw [e] at q; exact q.elim
      | ex c n m1 => rw [e] at q; exact fun F' H' dx r' => q F' H' σ dx r'
      | ok d m1 =>
        rw [e] at q
        intro F1 H1 v r1
        have q : PostS X.K cl xc W fd fv lv Dn (extS i d m1) := q
        unfold extS at q
        clear e
        split at q
        · rename_i xs o ys hx _
          split at q
          · rename_i hz
            have hi1 : isAbs (rd m1 i) = false := by rw [hx]; rfl
            obtain ⟨F2, b, ws, rfl, e2, w2, rb, _, mb⟩ := r1.wf.toTop.openTop
            obtain ⟨ub, hb, hub⟩ := mb hz.1
            have hub : ub = .lst ws := hub
            subst hub
            have r2 : Rel X.K cl fd fv F2 H1 σ m1 lv := r1.pop.with w2
            obtain ⟨a, vs, u, f', va, ha, hu, hlen, rv, put⟩ := r2.dummy.mutAt (p := []) hi1 (by rw [dget_nil, hx]) down_nil
            have hu : u = .lst vs := hu
            subst hu
            have ev : cV σ lv fv (root φ m i) = .ref a := (same_v r r2 hi hi1).trans (show V.ref a = _ from va).symm
            have lb := rb.len
            rw [frzs_len] at lb
            refine ⟨a, b, vs, ws, ev, rfl, ha, hb, by omega, ?_⟩
            have f0 : f' = [] := rv
            subst f0
            have r3 := put (.lst (vs ++ ws)) .lst (xs ++ frzs ys) (vs ++ ws) rfl fun fps rs nd => ⟨fps ++ [], rs.app rb, nd, fun b h => h⟩
            rw [dput_nil] at r3
            exact q F2 _ σ r3
          · exact q.elim
        · exact q.elim
theorem vat_of {K : PySem.W.Frag} {F H : Hp} {φ : Type} {fd : φ → D} {fv : φ → V} {σ : St} {m : M} {lv : List V} {i : Nat} (r : Rel K cl fd fv F H σ m lv) {p : List Sp1} {x : D} (h : dget (rd m i) p = some x) (hx : x ≠ .abs) : isAbs (rd m i) = false := by
  cases hm : rd m i with
  | abs =>
    rw [hm] at h
    cases p with
    | nil => simp [dget] at h; exact absurd h.symm hx
    | cons _ _ => simp [dget] at h
  | _ => rfl
theorem st_setIx {i : Nat} {ps : List Stp} {s : SF} {o ix : Expr} {p1 : Pos} (he : PEd X cl xc W e f) (ho : PEl X cl o i ps) (hi : PEs X cl ix s) (ha : ∀ v, assign (.Subscript o ix p1) X.env v = (do
      let ov ← holding [v] (eval o X.env)
      let iv ← holding [v, ov] (eval ix X.env)
      standAt p1
      holding [v, ov, iv] (setItem ov iv v)
      release [v, ov, iv] []))
    (hs : swapsWithSole [.Subscript o ix p1] e pos.line X.env = pure false) (hw : swappedStores [.Subscript o ix p1] e X.env = pure none) (h1 : (assignEach [.Subscript o ix p1] X.env).map (·.2) = [assign (.Subscript o ix p1) X.env]) :
    PSd X cl xc W (.Assign [.Subscript o ix p1] e pos) (dSetIx i ps s f) :=
  ps_imp (ps_asg he (pg_sub ho hi set_list ha) hs hw h1) fun Dn σ H hq => tS_E hq fun φ fd fv F H1 m lv x d r q => by
    split at q
    · rename_i p xs k er es
      split at q
      · rename_i hdn
        split at q
        · rename_i j ej
          have hg := resolve_get er
          have hi0 := vat_of r hg (by simp)
          obtain ⟨a, vs, u, f', va, ha', hu, hlen, rv, put⟩ := r.mutAt hi0 hg hdn
          have hu : u = .lst vs := hu
          subst hu
          refine ⟨φ, fd, fv, F, m, lv, r.pop, hi0, p, _, _, er, va, φ, fd, fv, F, m, lv, r.pop, _, es, rfl, fun vk hk => ?_⟩
          have hk : vk = .int k := hk
          subst hk
          refine ⟨a, vs, k, j, rfl, rfl, ha', by rw [hlen]; exact ej, ?_⟩
          have r2 := put (.lst (vs.set j x)) .lst (xs.set j d) (vs.set j x) rfl fun fps rs nd => by
            have hj : j < xs.length := ixN_lt ej
            obtain ⟨w1, f1, fm, f2, hw1, ry, efp, back⟩ := Reps.at rs (List.getElem?_eq_getElem hj)
            subst efp
            have nd1 := (List.nodup_append.mp nd)
            obtain ⟨n1, n2, n3⟩ := nodup_mid nd1.1
            refine ⟨f1 ++ f' ++ f2, back (Ex.refl F) (fun b hb => ⟨(Reps.fp _ rs b (by simp at hb ⊢; rcases hb with h | h <;> simp [h])).1, rfl⟩) rv, nodup_mk nd1.2.1 (fun b hb => ⟨fun h => ?_, fun h => ?_⟩) n3, fun b hb => ?_⟩
            · exact nd1.2.2 b (by simp [h]) b hb rfl
            · exact nd1.2.2 b (by simp [h]) b hb rfl
            · simp at hb ⊢; rcases hb with h | h | h <;> simp [h]
          exact q F _ σ r2
        · exact q.elim
      · exact q.elim
    · exact q.elim
theorem st_aug {i : Nat} {x : Str} {p1 : Pos} {op : Operator} {rr : R2} {o : D → D → Option D} {s : SF} (hN : X.N.Nodup) (hi : X.N[i]? = some x) (hx : Loc X.env.scope x) (he : PEs X cl e s) (ho : PIp X op rr) (hs : OpP rr o) (hsc : ∀ x y z, o x y = some z → isSc x = true ∧ isSc y = true) (hf : X.fn x = true ∨ X.env.scope.names.lookup x = some .local) :
    PSd X cl xc W (.AugAssign (.Name x p1) op e pos) (dAug i o s) :=
  ps_imp (ps_aug hN hi hx he ho hf) fun Dn σ H hq => by
    obtain ⟨φ, fd, fv, F, m, lv, r, q⟩ := tS_post.mp hq
    unfold dAug at q
    cases ex : toSc (rd m i) with
    | none => rw [ex] at q; exact q.elim
    | some x0 =>
      cases ey : s m with
      | none => rw [ex, ey] at q; exact q.elim
      | some y =>
        rw [ex, ey] at q
        simp only at q
        cases ez : o x0 y with
        | none => rw [ez] at q; exact q.elim
        | some z =>
          rw [ez] at q
          simp only at q
          split at q
          · rename_i hil
            obtain ⟨e1, e2⟩ := toSc_some ex
            have hi0 : isAbs (rd m i) = false := by rw [e1]; cases x0 <;> first | rfl | cases e2
            obtain ⟨q1, q2⟩ := r.at hi0
            obtain ⟨fp, h1, _⟩ := r.wf.fp
            have rp := h1 (root φ m i)
            rw [q1, e1] at rp
            obtain ⟨_, hy⟩ := hsc _ _ _ ez
            refine ⟨_, q2, φ, fd, fv, F, m, lv, r, y, ey, hy, fun vy hvy => ?_⟩
            refine (hs x0 y z _ vy H _ ez (rp.scal e2) hvy).2 fun v hv => ?_
            exact q F H _ ((r.push (r.wf.dup0 hv.rep)).store hil)
          · exact q.elim
end
end Rf
namespace Rf
open PySem L2
open PyProof.Rows (envOfC)
/-! defs and their calls -/
inductive RC where
  | ok (d : D) (as : List D) | ex (c : Nat) (n : Option Int) (as : List D) | no
def m0 (np ns : Nat) (as : List D) : M := ⟨(List.range np).map .len ++ List.replicate (ns - np) (.val .abs), as⟩
def rcOf : R Fl → RC
  | .ok (.rt d) m => .ok d m.ls
  | .ok .nx m => .ok .non m.ls
  | .ex c n m => .ex c n m.ls
  | _ => .no
def runB (np ns : Nat) (b : M → R Fl) (as : List D) : RC := if as.length = np then rcOf (b (m0 np ns as)) else .no
section
variable (K : PySem.W.Frag) (cl : Nat → Addr) (xc : XC)
def spF (np : Nat) (f : List D → RC) : Sp := fun vs H Q E => ∃ (φ : Type) (fd : φ → D) (fv : φ → V) (F : Hp) (ds : List D), vs.length = np ∧ ds.length = np ∧ WF K cl F H (pshs .abs ds fd) (pshs .non vs fv) ∧ match f ds with
  | .ok d as => ∀ (F' H' : Hp) (v : V), as.length = np → WF K cl F' H' (psh d (pshs .abs as fd)) (psh v (pshs .non vs fv)) → Q v H'
  | .ex c n as => ∀ (F' H' : Hp) (dx : Option Addr), as.length = np → WF K cl F' H' (pshs .abs as fd) (pshs .non vs fv) → ExcAt xc c n dx H' → E (.ref (xc.cls c)) dx H'
  | .no => False
end
section
variable {K : PySem.W.Frag} {cl : Nat → Addr} {xc : XC} {F H : Hp} {φ : Type} {fd : φ → D} {fv : φ → V}
theorem m0_sl {np ns : Nat} {as : List D} {i : Nat} {s : Sl} (h : (m0 np ns as).sl[i]? = some s) : (i < np ∧ s = .len i) ∨ s = .val .abs := by
  unfold m0 at h
  simp only at h
  by_cases hi : i < np
  · rw [List.getElem?_append_left (by simpa using hi), List.getElem?_map] at h
    rw [List.getElem?_range hi] at h
    exact .inl ⟨hi, by simpa using h.symm⟩
  · rw [List.getElem?_append_right (by simpa using hi), List.getElem?_replicate] at h
    split at h
    · exact .inr (Option.some.inj h).symm
    · cases h
theorem start_rel {np : Nat} {N : List Str} {ds : List D} {vs : List V} (w : WF K cl F H (pshs .abs ds fd) (pshs .non vs fv)) (hv : vs.length = np) (hd : ds.length = np) (hN : np ≤ N.length) : Rel K cl fd fv F H (L2.start N vs) (m0 np N.length ds) vs := by
  refine ⟨w.map (fun a => match a with | .fr r => some (.inr r) | .l k => some (.inl k) | .s _ => none) (fun a b r h1 h2 => ?_) (fun a r h => ?_) (fun a h => ?_), by simp [m0, hv, hd], by simp [m0, L2.start, hv], fun i d h hne => ?_, fun i k h => ?_⟩
  · rcases a with a | a | a <;> rcases b with b | b | b <;> first | (cases h1; done) | (cases h2; done) | (cases h1; cases h2; rfl) | (cases h1; cases h2)
  · rcases a with a | a | a
    · cases h; exact ⟨rfl, rfl⟩
    · cases h; exact ⟨rfl, rfl⟩
    · cases h
  · rcases a with a | a | i
    · cases h
    · cases h
    · simp only [cD]
      cases e : (m0 np N.length ds).sl[i]? with
      | none => rfl
      | some s =>
        rcases m0_sl e with ⟨_, rfl⟩ | rfl <;> rfl
  · rcases m0_sl h with ⟨_, e⟩ | e
    · cases e
    · cases e; exact absurd rfl hne
  · rcases m0_sl h with ⟨hi, e⟩ | e
    · cases e
      have hi' : i < vs.length := by omega
      refine ⟨by simp only [m0]; omega, vs[i], List.getElem?_eq_getElem hi', ?_⟩
      unfold L2.start
      rw [List.getElem?_append_left (by simpa using hi'), List.getElem?_map, List.getElem?_eq_getElem hi']
      rfl
    · cases e
/-- at the end of a def: the arguments, the frame -/
theorem Rel.args {σ : St} {m : M} {lv : List V} (r : Rel K cl fd fv F H σ m lv) : WF K cl F H (pshs .abs m.ls fd) (pshs .non lv fv) :=
  r.wf.map (fun a => match a with | .inl k => some (.l k) | .inr r => some (.fr r)) (fun a b r h1 h2 => by
    have e := h1.trans h2.symm
    rcases a with a | a <;> rcases b with b | b <;> first | (simp at e; done) | (simp at e; subst e; rfl)) (fun a r h => by rcases a with a | a <;> (cases h; exact ⟨rfl, rfl⟩)) (fun a h => by rcases a with a | a <;> cases h)
theorem Rel.argsTop {σ : St} {m : M} {lv : List V} {d : D} {v : V} (r : Rel K cl (psh d fd) (psh v fv) F H σ m lv) : WF K cl F H (psh d (pshs .abs m.ls fd)) (psh v (pshs .non lv fv)) :=
  r.wf.map (fun a => match a with | none => some (.fr none) | some (.inl k) => some (.l k) | some (.inr r) => some (.fr (some r))) (fun a b r h1 h2 => by
    have e := h1.trans h2.symm
    rcases a with _ | (a | a) <;> rcases b with _ | (b | b) <;> first | rfl | (simp at e; done) | (simp at e; subst e; rfl)) (fun a r h => by rcases a with _ | (a | a) <;> (cases h; exact ⟨rfl, rfl⟩)) (fun a h => by rcases a with _ | (a | a) <;> cases h)
end
/-- a def keeps the promise of its body -/
theorem fn_ok {P : Program} {w : World} {K : PySem.W.Frag} {mg : Str → Option Value} {base : Heap} {cl : Nat → Addr} {xc : XC} {x qual : Str} {st : Stmt} {f : Addr} {fd : FuncData} {N ps : List Str} {k : Nat} {b : M → R Fl} (Fn : Fun K x qual st f fd) (S : FnScope N ps (defScope st))
    (hb : ∀ (cdv : Value) (A : Around) (outer : List Env) (s : Shared) (H : Hp) (E : XK), Room k (A.deeper (envOfC qual (defScope st) s.heap.objs.size f cdv)) → PSsd (cxOf (L2.CX P w) P w K mg base N qual (defScope st) f cdv A outer s H E) cl xc (fun c d _ H => E c d H) (defBody st) b) :
    FnOk P w K mg base (L2.CX P w) (k + 1) f fd ps (spF K cl xc ps.length (runB ps.length N.length b)) := by
  refine Fn.okX S (fun vs H Q E h => ?_) (fun cdv A outer s H vs Q E hr h => ⟨_, hb cdv A outer s H E hr, ?_⟩)
  · obtain ⟨_, _, _, _, _, h, _⟩ := h
    exact h
  · obtain ⟨φ, gd, gv, F, ds, hv, hd, wf, q⟩ := h
    have hN : ps.length ≤ N.length := by have := congrArg List.length S.pre; rw [List.length_take] at this; omega
    refine tS_post.mpr ⟨φ, gd, gv, F, _, vs, start_rel wf hv hd hN, ?_⟩
    unfold runB at q
    rw [if_pos hd] at q
    have ll : ∀ {ψ : Type} {gd : ψ → D} {gv : ψ → V} {F H : Hp} {σ : St} {m : M}, Rel K cl gd gv F H σ m vs → m.ls.length = ps.length := fun r => by rw [← r.ll]; exact hv
    cases e : b (m0 ps.length N.length ds) with
    | no => rw [e] at q; exact q
    | ex c n m' => rw [e] at q; exact fun F' H' σ' dx r hx => q F' H' dx (ll r) r.args hx
    | ok fl m' =>
      rw [e] at q
      cases fl with
      | nx => exact fun F' H' σ' r => q F' H' .non (ll r) (r.push (d := .non) (r.wf.dup0 ⟨rfl, rfl⟩)).argsTop
      | bk => exact q.elim
      | ct => exact q.elim
      | rt d => exact fun F' H' σ' v r => q F' H' v (ll r) r.argsTop
/-! arguments: a value, or a slot that is lent -/
inductive Ar where
  | v (f : M → R D) | l (i : Nat)
def dArgs : List Ar → M → R (List D)
  | [], m => .ok [] m
  | .v f :: r, m => (f m).bind fun x m => (dArgs r m).bind fun xs m => .ok (x :: xs) m
  | .l i :: r, m => if isAbs (rd m i) then .no else (dArgs r m).bind fun xs m => .ok (.abs :: xs) m
/-- what is lent goes to the callee -/
def takeL : List Ar → List D → M → Option (List D × M)
  | [], [], m => some ([], m)
  | .v _ :: r, d :: ds, m => (takeL r ds m).map fun z => (d :: z.1, z.2)
  | .l i :: r, _ :: ds, m => if isAbs (rd m i) then none else (takeL r ds (wr m i .abs)).map fun z => (rd m i :: z.1, z.2)
  | _, _, _ => none
/-- and comes back -/
def putL : List Ar → List D → M → M
  | .v _ :: r, _ :: ds, m => putL r ds m
  | .l i :: r, d :: ds, m => putL r ds (wr m i d)
  | _, _, m => m
def dCall (f : List D → RC) (as : List Ar) : M → R D := fun m => (dArgs as m).bind fun ds m => match takeL as ds m with
  | none => .no
  | some (ds, m) => match f ds with
    | .ok d ds => .ok d (putL as ds m)
    | .ex c n ds => .ex c n (putL as ds m)
    | .no => .no
section
variable {K : PySem.W.Frag} {cl : Nat → Addr} {xc : XC} {W : WX} {F H : Hp} {φ : Type} {fd : φ → D} {fv : φ → V} {σ : St} {m : M} {lv : List V}
/-- the places of a slot and of a temporary change their things -/
theorem Rel.swap {ds : List D} {vs : List V} {i j : Nat} {d : D} {v : V} (r : Rel K cl (pshs .abs ds fd) (pshs .non vs fv) F H σ m lv) (hd : ds[j]? = some d) (hv : vs[j]? = some v) (hi : i < m.sl.length) (hs : σ[i]? = some (some v)) :
    Rel K cl (pshs .abs (ds.set j (rd m i)) fd) (pshs .non vs fv) F H σ (Rf.wr m i d) lv := by
  have hj : j < ds.length := (List.getElem?_eq_some_iff.mp hd).1
  obtain ⟨s, es⟩ : ∃ s, m.sl[i]? = some s := ⟨_, List.getElem?_eq_getElem hi⟩
  have eV : ∀ (ψ : Type) (gv : ψ → V), cV σ lv gv (root ψ m i) = v := fun ψ gv => by
    unfold root
    rw [es]
    cases s with
    | val d0 => simp [cV, hs]
    | len k =>
      obtain ⟨_, u, h1, h2⟩ := r.vl i k es
      rw [hs] at h2
      cases h2
      simp [cV, h1]
  have eR : ∀ x : Ix (Nat ⊕ φ), x ≠ .fr (.inl j) → x ≠ root _ m i → cD (Rf.wr m i d) (pshs .abs (ds.set j (rd m i)) fd) x = cD m (pshs .abs ds fd) x := fun x h1 h2 => by
    unfold root at h2
    unfold Rf.wr
    rw [es] at h2 ⊢
    rcases x with (x | x) | k | k
    · have : j ≠ x := fun e => h1 (by rw [e])
      simp only [cD, pshs]
      rw [List.getElem?_set_ne this]
    · rfl
    · cases s with
      | val d0 => rfl
      | len k0 =>
        have : k0 ≠ k := fun e => h2 (by rw [e])
        simp only [cD]
        rw [List.getElem?_set_ne this]
    · cases s with
      | val d0 =>
        have : i ≠ k := fun e => h2 (by rw [e])
        simp only [cD]
        rw [List.getElem?_set_ne this]
      | len k0 => rfl
  have e1 : cD (Rf.wr m i d) (pshs .abs (ds.set j (rd m i)) fd) (.fr (.inl j)) = rd m i := by simp [cD, pshs, hj]
  have e2 : cD (Rf.wr m i d) (pshs .abs (ds.set j (rd m i)) fd) (root _ m i) = d := by
    unfold root Rf.wr
    rw [es]
    cases s with
    | val d0 => simp [cD, hi, Sl.d]
    | len k0 => simp [cD, (r.vl i k0 es).1]
  have e3 : cD m (pshs .abs ds fd) (root _ m i) = rd m i := by
    unfold root rd
    rw [es]
    cases s with
    | val d0 => simp [cD, es, Sl.d]
    | len k0 => simp [cD]
  have e4 : cD m (pshs .abs ds fd) (.fr (.inl j)) = d := by simp [cD, pshs, hd]
  have e5 : cV σ lv (pshs .non vs fv) (.fr (.inl j)) = v := by simp [cV, pshs, hv]
  refine ⟨r.wf.map (fun x => open Classical in if x = .fr (.inl j) then some (root _ m i) else if x = root _ m i then some (.fr (.inl j)) else some x) (fun a b x h1 h2 => ?_) (fun a x h => ?_) (fun a h => ?_), ?_, ?_, fun t e ht hne => ?_, fun t k ht => ?_⟩
  · have ne : (.fr (.inl j) : Ix (Nat ⊕ φ)) ≠ root _ m i := by unfold root; rw [es]; cases s <;> simp
    split at h1 <;> split at h2
    · rename_i p q; rw [p, q]
    · split at h2
      · exact absurd ((Option.some.inj h2).trans (Option.some.inj h1).symm) ne
      · rename_i p q z; exact absurd ((Option.some.inj h2).trans (Option.some.inj h1).symm) z
    · split at h1
      · exact absurd ((Option.some.inj h1).trans (Option.some.inj h2).symm) ne
      · rename_i p q z; exact absurd ((Option.some.inj h1).trans (Option.some.inj h2).symm) z
    · split at h1 <;> split at h2
      · rename_i p q; rw [p, q]
      · rename_i z p q; exact absurd ((Option.some.inj h2).trans (Option.some.inj h1).symm) z
      · rename_i z p q p'; exact absurd ((Option.some.inj h1).trans (Option.some.inj h2).symm) z
      · exact (Option.some.inj h1).trans (Option.some.inj h2).symm
  · split at h
    · rename_i p; subst p; cases h; rw [e1, e3, e5, eV]; exact ⟨rfl, rfl⟩
    · split at h
      · rename_i p q; subst q; cases h; rw [e2, e4, e5, eV]; exact ⟨rfl, rfl⟩
      · rename_i p q; cases h; exact ⟨eR a p q, rfl⟩
  · split at h
    · cases h
    · split at h <;> cases h
  · unfold Rf.wr; split <;> simp [r.ll]
  · unfold Rf.wr; split <;> simp [r.sl]
  · by_cases q : t = i
    · subst q; exact ⟨_, hs⟩
    · have ht' : m.sl[t]? = some (.val e) := by
        unfold Rf.wr at ht; split at ht
        · simpa [List.getElem?_set_ne (Ne.symm q)] using ht
        · exact ht
        · exact ht
      exact r.vs t e ht' hne
  · have ht' : m.sl[t]? = some (.len k) := by
      unfold Rf.wr at ht; split at ht
      · by_cases q : t = i
        · subst q; simp [hi] at ht
        · simpa [List.getElem?_set_ne (Ne.symm q)] using ht
      · exact ht
      · exact ht
    obtain ⟨h1, h2⟩ := r.vl t k ht'
    refine ⟨?_, h2⟩
    unfold Rf.wr; split <;> simp [h1]
end
end Rf
namespace Rf
open PySem L2
open PyProof.Rows (envOfC)
section
variable {K : PySem.W.Frag} {cl : Nat → Addr} {xc : XC} {W : WX} {F H : Hp} {φ : Type} {fd : φ → D} {fv : φ → V} {σ : St} {lv : List V} {vs : List V}
theorem rd_lt {m : M} {i : Nat} (h : isAbs (rd m i) = false) : i < m.sl.length := by
  unfold rd at h
  cases e : m.sl[i]? with
  | none => rw [e] at h; cases h
  | some s => exact (List.getElem?_eq_some_iff.mp e).1
theorem wr_sl {m : M} {i : Nat} {d : D} : (wr m i d).sl.length = m.sl.length := by unfold wr; split <;> simp
theorem set_mid {α : Type} {pre ds : List α} {x y : α} : (pre ++ x :: ds).set pre.length y = pre ++ y :: ds := by
  rw [List.set_append_right _ _ (Nat.le_refl _)]; simp
theorem take_ok : ∀ (as : List Ar) (pre ds : List D) (m : M) (ds' : List D) (m' : M), takeL as ds m = some (ds', m') → Rel K cl (pshs .abs (pre ++ ds) fd) (pshs .non vs fv) F H σ m lv →
    (∀ (j i : Nat), as[j]? = some (.l i) → ds[j]? = some .abs ∧ ∃ v, vs[pre.length + j]? = some v ∧ σ[i]? = some (some v)) →
      Rel K cl (pshs .abs (pre ++ ds') fd) (pshs .non vs fv) F H σ m' lv ∧ m'.sl.length = m.sl.length ∧ ds'.length = ds.length ∧ as.length = ds.length
  | [], pre, [], m, ds', m', h, r, _ => by
    simp only [takeL, Option.some.injEq, Prod.mk.injEq] at h
    obtain ⟨rfl, rfl⟩ := h
    exact ⟨r, rfl, rfl, rfl⟩
  | [], _, _ :: _, _, _, _, h, _, _ => by simp [takeL] at h
  | .v _ :: _, _, [], _, _, _, h, _, _ => by simp [takeL] at h
  | .l _ :: _, _, [], _, _, _, h, _, _ => by simp [takeL] at h
  | .v f :: as, pre, d :: ds, m, ds', m', h, r, hc => by
    simp only [takeL] at h
    cases e : takeL as ds m with
    | none => rw [e] at h; cases h
    | some z =>
      obtain ⟨z1, z2⟩ := z
      rw [e] at h
      simp only [Option.map_some, Option.some.injEq, Prod.mk.injEq] at h
      obtain ⟨rfl, rfl⟩ := h
      have ih := take_ok as (pre ++ [d]) ds m z1 z2 e (by simpa using r) (fun j i hj => by
        have := hc (j + 1) i (by simpa using hj)
        rw [List.length_append, List.length_singleton, show pre.length + 1 + j = pre.length + (j + 1) by omega]
        simpa using this)
      refine ⟨by simpa using ih.1, ih.2.1, by simp [ih.2.2.1], by simp [ih.2.2.2]⟩
  | .l i :: as, pre, d :: ds, m, ds', m', h, r, hc => by
    simp only [takeL] at h
    cases ha : isAbs (rd m i) with
    | true => rw [ha] at h; cases h
    | false =>
      rw [ha] at h
      simp only [Bool.false_eq_true, if_false] at h
      cases e : takeL as ds (wr m i .abs) with
      | none => rw [e] at h; cases h
      | some z =>
        obtain ⟨z1, z2⟩ := z
        rw [e] at h
        simp only [Option.map_some, Option.some.injEq, Prod.mk.injEq] at h
        obtain ⟨rfl, rfl⟩ := h
        obtain ⟨h1, v, h2, h3⟩ := hc 0 i rfl
        have h1 : d = .abs := by simpa using h1
        subst h1
        have r2 := r.swap (i := i) (j := pre.length) (d := .abs) (v := v) (by simp) (by simpa using h2) (rd_lt ha) h3
        rw [set_mid] at r2
        have ih := take_ok as (pre ++ [rd m i]) ds (wr m i .abs) z1 z2 e (by simpa using r2) (fun j k hj => by
          have := hc (j + 1) k (by simpa using hj)
          rw [List.length_append, List.length_singleton, show pre.length + 1 + j = pre.length + (j + 1) by omega]
          simpa using this)
        refine ⟨by simpa using ih.1, by rw [ih.2.1, wr_sl], by simp [ih.2.2.1], by simp [ih.2.2.2]⟩
theorem put_ok : ∀ (as : List Ar) (pre ds : List D) (m : M), Rel K cl (pshs .abs (pre ++ ds) fd) (pshs .non vs fv) F H σ m lv → as.length = ds.length →
    (∀ (j i : Nat), as[j]? = some (.l i) → i < m.sl.length ∧ ∃ v, vs[pre.length + j]? = some v ∧ σ[i]? = some (some v)) →
      Rel K cl fd fv F H σ (putL as ds m) lv
  | [], pre, [], m, r, _, _ => r.untops
  | [], _, _ :: _, _, _, h, _ => by simp at h
  | _ :: _, _, [], _, _, h, _ => by simp at h
  | .v f :: as, pre, d :: ds, m, r, hl, hc => by
    have ih := put_ok as (pre ++ [d]) ds m (by simpa using r) (by simpa using hl) (fun j i hj => by
      have := hc (j + 1) i (by simpa using hj)
      rw [List.length_append, List.length_singleton, show pre.length + 1 + j = pre.length + (j + 1) by omega]
      simpa using this)
    exact ih
  | .l i :: as, pre, d :: ds, m, r, hl, hc => by
    obtain ⟨h1, v, h2, h3⟩ := hc 0 i rfl
    have r2 := r.swap (i := i) (j := pre.length) (d := d) (v := v) (by simp) (by simpa using h2) h1 h3
    rw [set_mid] at r2
    exact put_ok as (pre ++ [rd m i]) ds (wr m i d) (by simpa using r2) (by simpa using hl) (fun j k hj => by
      have := hc (j + 1) k (by simpa using hj)
      rw [List.length_append, List.length_singleton, show pre.length + 1 + j = pre.length + (j + 1) by omega, wr_sl]
      simpa using this)
/-- the arguments of a call -/
def tAr (K : PySem.W.Frag) (cl : Nat → Addr) (xc : XC) (W : WX) (as : List Ar) : TA := fun σ H Q => ∃ (φ : Type) (fd : φ → D) (fv : φ → V) (F : Hp) (m : M) (lv : List V), Rel K cl fd fv F H σ m lv ∧ match dArgs as m with
  | .ok ds m' => ∀ (F' H' : Hp) (vs : List V), vs.length = ds.length → Rel K cl (pshs .abs ds fd) (pshs .non vs fv) F' H' σ m' lv →
      (∀ (j i : Nat), as[j]? = some (.l i) → ds[j]? = some .abs ∧ ∃ v, vs[j]? = some v ∧ σ[i]? = some (some v)) → Q vs H'
  | .ex c n m' => ∀ (F' H' : Hp) (dx : Option Addr), Rel K cl fd fv F' H' σ m' lv → ExcAt xc c n dx H' → W (.ref (xc.cls c)) dx σ H'
  | .no => False
theorem Rel.consTops {d : D} {v : V} {ds : List D} {us : List V} {m : M} (r2 : Rel K cl (pshs .abs ds (psh d fd)) (pshs .non us (psh v fv)) F H σ m lv) : Rel K cl (pshs .abs (d :: ds) fd) (pshs .non (v :: us) fv) F H σ m lv := by
  refine r2.untops.pop.tops ?_
  refine WF.consTop ?_
  have w := r2.wf.toTops
  refine w.map (fun a => match a with | .inl i => some (.inl i) | .inr none => some (.inr (.fr none)) | .inr (some (.fr r)) => some (.inr (.fr (some r))) | .inr (some (.l k)) => some (.inr (.l k)) | .inr (some (.s i)) => some (.inr (.s i))) (fun a b r h1 h2 => ?_) (fun a r h => ?_) (fun a h => ?_)
  · have e := h1.trans h2.symm
    rcases a with a | (_ | (a | a | a)) <;> rcases b with b | (_ | (b | b | b)) <;> first | rfl | (simp at e; done) | (simp at e; subst e; rfl)
  · rcases a with a | (_ | (a | a | a)) <;> (cases h; exact ⟨rfl, rfl⟩)
  · rcases a with a | (_ | (a | a | a)) <;> cases h
end
section
variable {X : Cx} {cl : Nat → Addr} {xc : XC} {W : WX} {e a b c o : Expr} {es : List Expr} {f g : M → R D} {as : List Ar} {pos apos : Pos}
abbrev PAr (X : Cx) (cl : Nat → Addr) (xc : XC) (W : WX) (es : List Expr) (as : List Ar) : Prop := PA X es (tAr X.K cl xc W as)
theorem ar_nil : PAr X cl xc W [] [] := pa_imp pa_nil fun σ H Q ⟨φ, fd, fv, F, m, lv, r, q⟩ => q F H [] rfl (r.tops r.wf.noTops) (fun j i h => by simp at h)
theorem ar_v (ha : PEd X cl xc W e f) (hb : PAr X cl xc W es as) (hs : starEach (e :: es) X.env = (false, eval e X.env) :: starEach es X.env) : PAr X cl xc W (e :: es) (.v f :: as) :=
  pa_imp (pa_cons ha hb hs) fun σ H Q ⟨φ, fd, fv, F, m, lv, r, q⟩ => by
    refine ⟨φ, fd, fv, F, m, lv, r, ?_⟩
    unfold dArgs at q
    cases e1 : f m with
    | no => simp only [e1, R.bind] at q
    | ex c n m1 => simp only [e1, R.bind] at q ⊢; exact q
    | ok x m1 =>
      simp only [e1, R.bind] at q ⊢
      intro F1 H1 v r1
      refine ⟨_, psh x fd, psh v fv, F1, m1, lv, r1, ?_⟩
      cases e2 : dArgs as m1 with
      | no => simp only [e2, R.bind] at q
      | ex c n m2 => simp only [e2, R.bind] at q ⊢; exact fun F2 H2 dx r2 => q F2 H2 dx r2.pop
      | ok xs m2 =>
        simp only [e2, R.bind] at q ⊢
        intro F2 H2 vs hl r2 hc
        refine q F2 H2 (v :: vs) (by simp [hl]) r2.consTops (fun j i hj => ?_)
        cases j with
        | zero => simp at hj
        | succ j => simpa using hc j i (by simpa using hj)
theorem ar_l {i : Nat} {x : Str} {p : Pos} (hx : PEl X cl (.Name x p) i []) (hb : PAr X cl xc W es as) (hs : starEach (.Name x p :: es) X.env = (false, eval (.Name x p) X.env) :: starEach es X.env) : PAr X cl xc W (.Name x p :: es) (.l i :: as) :=
  pa_imp (pa_cons hx hb hs) fun σ H Q ⟨φ, fd, fv, F, m, lv, r, q⟩ => by
    unfold dArgs at q
    cases hi : isAbs (rd m i) with
    | true => simp only [hi, if_true] at q
    | false =>
      simp only [hi, Bool.false_eq_true, if_false] at q
      refine ⟨φ, fd, fv, F, m, lv, r, hi, [], _, _, rfl, rfl, ?_⟩
      have r1 : Rel X.K cl (psh .abs fd) (psh (cV σ lv fv (root φ m i)) fv) F H σ m lv := r.push (r.wf.dup0 rfl)
      refine ⟨_, psh .abs fd, psh (cV σ lv fv (root φ m i)) fv, F, m, lv, r1, ?_⟩
      cases e2 : dArgs as m with
      | no => simp only [e2, R.bind] at q
      | ex c n m2 => simp only [e2, R.bind] at q ⊢; exact fun F2 H2 dx r2 => q F2 H2 dx r2.pop
      | ok xs m2 =>
        simp only [e2, R.bind] at q ⊢
        intro F2 H2 vs hl r2 hc
        refine q F2 H2 (_ :: vs) (by simp [hl]) r2.consTops (fun j i' hj => ?_)
        cases j with
        | zero =>
          have hj : i = i' := by simpa using hj
          subst hj
          exact ⟨rfl, _, rfl, (r.at hi).2⟩
        | succ j => simpa using hc j i' (by simpa using hj)
/-- behind the arguments: the callee's promise -/
theorem call_post {fn : List D → RC} {np : Nat} {σ : St} {Q : VK} {φ : Type} {fd : φ → D} {fv : φ → V} {F H : Hp} {m : M} {lv : List V} {ds : List D} {vs : List V} (hl : vs.length = ds.length) (hnp : ds.length = np)
    (r : Rel X.K cl (pshs .abs ds fd) (pshs .non vs fv) F H σ m lv) (hc : ∀ (j i : Nat), as[j]? = some (.l i) → ds[j]? = some .abs ∧ ∃ v, vs[j]? = some v ∧ σ[i]? = some (some v))
    (q : match (match takeL as ds m with
      | none => .no
      | some (ds, m) => match fn ds with
        | .ok d ds => .ok d (putL as ds m)
        | .ex c n ds => .ex c n (putL as ds m)
        | .no => .no : R D) with
      | .ok d m' => ∀ (F' H' : Hp) (v : V), Rel X.K cl (psh d fd) (psh v fv) F' H' σ m' lv → Q v H'
      | .ex c n m' => ∀ (F' H' : Hp) (dx : Option Addr), Rel X.K cl fd fv F' H' σ m' lv → ExcAt xc c n dx H' → W (.ref (xc.cls c)) dx σ H'
      | .no => False) : spF X.K cl xc np fn vs H Q (fun c d H' => W c d σ H') := by
  cases et : takeL as ds m with
  | none => simp only [et] at q
  | some z =>
    obtain ⟨ds1, m1⟩ := z
    simp only [et] at q
    obtain ⟨r1, hm, hd1, has⟩ := take_ok as [] ds m ds1 m1 et (by simpa using r) (fun j i h => by simpa using hc j i h)
    have r1 : Rel X.K cl (pshs .abs ds1 fd) (pshs .non vs fv) F H σ m1 lv := by simpa using r1
    have lt : ∀ (j i : Nat), as[j]? = some (.l i) → i < m1.sl.length ∧ ∃ v, vs[j]? = some v ∧ σ[i]? = some (some v) := fun j i h => by
      obtain ⟨_, v, h1, h2⟩ := hc j i h
      have : i < σ.length := (List.getElem?_eq_some_iff.mp h2).1
      rw [r1.sl] at this
      exact ⟨this, v, h1, h2⟩
    refine ⟨Ix φ, cD m1 fd, cV σ lv fv, F, ds1, by omega, by omega, r1.wf.toTops, ?_⟩
    cases ef : fn ds1 with
    | no => simp only [ef] at q
    | ok d ds2 =>
      simp only [ef] at q
      intro F' H' v hl2 w
      refine q F' H' v ?_
      have r2 : Rel X.K cl (pshs .abs ds2 (psh d fd)) (pshs .non vs (psh v fv)) F' H' σ m1 lv := by
        refine ⟨w.map (fun a => match a with | .fr (.inl i) => some (some (.inl i)) | .fr (.inr none) => some none | .fr (.inr (some r)) => some (some (.inr (.fr r))) | .l k => some (some (.inr (.l k))) | .s i => some (some (.inr (.s i)))) (fun a b r h1 h2 => ?_) (fun a r h => ?_) (fun a h => ?_), r1.ll, r1.sl, r1.vs, r1.vl⟩
        · have e := h1.trans h2.symm
          rcases a with (a | (_ | a)) | a | a <;> rcases b with (b | (_ | b)) | b | b <;> first | rfl | (simp at e; done) | (simp at e; subst e; rfl)
        · rcases a with (a | (_ | a)) | a | a <;> (cases h; exact ⟨rfl, rfl⟩)
        · rcases a with (a | (_ | a)) | a | a <;> cases h
      exact put_ok as [] ds2 m1 (by simpa using r2) (by omega) (fun j i h => by simpa using lt j i h)
    | ex c n ds2 =>
      simp only [ef] at q
      intro F' H' dx hl2 w hx
      refine q F' H' dx ?_ hx
      have r2 : Rel X.K cl (pshs .abs ds2 fd) (pshs .non vs fv) F' H' σ m1 lv := ⟨w.ofTops, r1.ll, r1.sl, r1.vs, r1.vl⟩
      exact put_ok as [] ds2 m1 (by simpa using r2) (by omega) (fun j i h => by simpa using lt j i h)
theorem dArgs_len : ∀ {as : List Ar} {m : M} {ds : List D} {m' : M}, dArgs as m = .ok ds m' → ds.length = as.length
  | [], m, ds, m', h => by unfold dArgs at h; cases h; rfl
  | .v f :: as, m, ds, m', h => by
    unfold dArgs at h
    cases e1 : f m with
    | ok x m1 =>
      rw [e1] at h
      simp only [R.bind] at h
      cases e2 : dArgs as m1 with
      | ok xs m2 =>
        rw [e2] at h
        simp only [R.bind] at h
        cases h
        rw [List.length_cons, List.length_cons, dArgs_len e2]
      | ex c n m2 => rw [e2] at h; cases h
      | no => rw [e2] at h; cases h
    | ex c n m1 => rw [e1] at h; cases h
    | no => rw [e1] at h; cases h
  | .l i :: as, m, ds, m', h => by
    unfold dArgs at h
    split at h
    · cases h
    · cases e2 : dArgs as m with
      | ok xs m2 =>
        rw [e2] at h
        simp only [R.bind] at h
        cases h
        rw [List.length_cons, List.length_cons, dArgs_len e2]
      | ex c n m2 => rw [e2] at h; cases h
      | no => rw [e2] at h; cases h
theorem d_call {k : Nat} {fa : Addr} {fdt : FuncData} {ps : List Str} {x : Str} {p : Pos} {fn : List D → RC} (tk : Takes X W) (G : FnOk X.prog X.w X.K X.mg X.base (L2.CX X.prog X.w) k fa fdt ps (spF X.K cl xc ps.length fn)) (hr : Room k X.A) (hg : Gl X x) (hm : X.mg x = some (.ref fa)) (hk : PySem.W.keepIn X.K (.ref fa) = true) (hb : Binds X.K fdt ps [])
    (ha : PAr X cl xc W (e :: es) as) (hn : as.length = ps.length) (hdb : (x == ("__debug__" : Str)) = false) (he : starEach (e :: es) X.env = (false, eval e X.env) :: starEach es X.env) (hpl : (backTo pos (starEach es X.env)).any (·.1) = false) : PEd X cl xc W (.Call (.Name x p) (e :: es) [] pos) (dCall fn as) :=
  pe_imp (pe_callSD (E := fun σ c d H' => W c d σ H') G hr hg hm hk hb .nil (fun σ => passAt tk σ) ha hdb he hpl) fun σ H Q ⟨φ, fd, fv, F, m, lv, r, q⟩ => by
    refine ⟨φ, fd, fv, F, m, lv, r, ?_⟩
    unfold dCall at q
    cases ed : dArgs as m with
    | no => simp only [ed, R.bind] at q
    | ex c n m1 => simp only [ed, R.bind] at q ⊢; exact q
    | ok ds m1 =>
      simp only [ed, R.bind] at q ⊢
      intro F1 H1 vs hl r1 hc
      rw [List.append_nil]
      exact call_post hl (by rw [dArgs_len ed, hn]) r1 hc q
end
end Rf
namespace Rf
open PySem L2
open PyProof.Rows (envOfC)
/-! list comprehensions -/
/-- the block's own slots are emptied, what stood there is kept -/
def clr : List Nat → M → Option (M × List D)
  | [], m => some (m, [])
  | j :: js, m => (clr js m).bind fun z => match z.1.sl[j]? with
    | some (.val d) => some (setS z.1 j .abs, d :: z.2)
    | _ => none
def rst : List Nat → List D → M → M
  | j :: js, d :: ds, m => rst js ds (setS m j d)
  | _, _, m => m
def clrs : List Nat → M → M
  | [], m => m
  | j :: js, m => setS (clrs js m) j .abs
def allVal (js : List Nat) (m : M) : Bool := js.all fun j => match m.sl[j]? with
  | some (.val _) => true
  | _ => false
def loopC (g : TF) (t : M → R Bool) (f : M → R D) (js : List Nat) : List D → List D → M → R (List D)
  | [], acc, m => .ok acc m
  | d :: ds, acc, m => match g d m with
    | none => .no
    | some m => (t m).bind fun b m => if b then (f m).bind fun y m => if acc.length < sizeLine ∧ isAbs y = false ∧ allVal js m = true then loopC g t f js ds (acc ++ [y]) (clrs js m) else .no
      else if allVal js m = true then loopC g t f js ds acc (clrs js m) else .no
def quiet {α : Type} : R α → R α
  | .ex _ _ _ => .no
  | r => r
def dLc (it : M → R Itr) (g : TF) (t : M → R Bool) (f : M → R D) (js : List Nat) : M → R D := fun m => (it m).bind fun w m => match clr js m with
  | none => .no
  | some (m, old) => (quiet (loopC g t f js w.items [] m)).bind fun ds m => if allVal js m = true then .ok (.obj .own .lst ds) (rst js old m) else .no
def tYesD : M → R Bool := fun m => .ok true m
section
variable {K : PySem.W.Frag} {cl : Nat → Addr} {F H : Hp} {φ : Type} {fd : φ → D} {fv : φ → V} {σ : St} {m : M} {lv : List V}
theorem wipe_get {σ : St} {i : Nat} : ∀ {vs : List Nat}, (wipe σ vs)[i]? = if i ∈ vs ∧ i < σ.length then some none else σ[i]?
  | [] => by simp [wipe]
  | v :: vs => by
    unfold wipe
    by_cases h : v = i
    · subst h
      by_cases hl : v < σ.length
      · rw [List.getElem?_set_self (by rw [wipe_length]; exact hl)]; simp [hl]
      · rw [List.getElem?_eq_none (by rw [List.length_set, wipe_length]; omega), if_neg (by simp [hl]), List.getElem?_eq_none (by omega)]
    · rw [List.getElem?_set_ne h, wipe_get]
      have : i ≠ v := fun e => h e.symm
      simp [this]
theorem wipe_chg {σ σ' : St} {vs : List Nat} (h : Chg vs (wipe σ vs) σ') : wipe σ' vs = wipe σ vs := by
  obtain ⟨h1, h2⟩ := h
  rw [wipe_length] at h1
  apply List.ext_getElem?
  intro i
  rw [wipe_get, wipe_get, h1]
  by_cases hi : i ∈ vs ∧ i < σ.length
  · rw [if_pos hi, if_pos hi]
  · rw [if_neg hi, if_neg hi]
    by_cases hm : i ∈ vs
    · have : ¬ i < σ.length := fun h => hi ⟨hm, h⟩
      rw [List.getElem?_eq_none (by omega), List.getElem?_eq_none (by omega)]
    · rw [h2 i hm, wipe_get, if_neg fun z => hm z.1]
/-- a slot emptied: what stood there is a temporary -/
theorem Rel.clear {j : Nat} {d : D} (r : Rel K cl fd fv F H σ m lv) (h : m.sl[j]? = some (.val d)) : ∃ v, Rel K cl (psh d fd) (psh v fv) F H (σ.set j none) (setS m j .abs) lv ∧ (d ≠ .abs → σ[j]? = some (some v)) := by
  have hj : j < m.sl.length := (List.getElem?_eq_some_iff.mp h).1
  have w := r.wf.move (.s j)
  have ed : cD m fd (.s j) = d := by simp [cD, h, Sl.d]
  rw [ed] at w
  refine ⟨cV σ lv fv (.s j), ⟨w.map (fun a => match a with | .fr none => some none | .fr (some r) => some (some (.fr r)) | .l k => some (some (.l k)) | .s i => open Classical in if i = j then none else some (some (.s i))) (fun a b x h1 h2 => ?_) (fun a x hx => ?_) (fun a ha => ?_), r.ll, by simp [setS, r.sl], fun i e hi hne => ?_, fun i k hi => ?_⟩, fun hne => ?_⟩
  · rcases a with (_ | a) | a | a <;> rcases b with (_ | b) | b | b
    all_goals first | rfl | (cases h1; cases h2; done) | (cases h1; cases h2; rfl) | skip
    all_goals (simp only at h1 h2; first | (split at h1 <;> split at h2 <;> first | (cases h1; done) | (cases h2; done) | (have e := h1.trans h2.symm; simp at e; subst e; rfl)) | (split at h1 <;> first | (cases h1; done) | (have e := h1.trans h2.symm; simp at e)) | (split at h2 <;> first | (cases h2; done) | (have e := h1.trans h2.symm; simp at e)))
  · rcases a with (_ | a) | a | a
    · cases hx; exact ⟨rfl, rfl⟩
    · cases hx; exact ⟨by (show fd a = fset (cD m fd) (.s j) .abs (.fr a)); rw [fset_ne (by simp)]; rfl, rfl⟩
    · cases hx; exact ⟨by (show cD m fd (.l a) = fset (cD m fd) (.s j) .abs (.l a)); rw [fset_ne (by simp)], rfl⟩
    · simp only at hx
      split at hx
      · cases hx
      · rename_i ne
        cases hx
        refine ⟨?_, ?_⟩
        · show cD (setS m j .abs) _ (.s a) = fset (cD m fd) (.s j) .abs (.s a)
          rw [fset_ne (by simpa using ne)]
          simp [cD, setS, List.getElem?_set_ne (Ne.symm ne)]
        · show cV (σ.set j none) lv _ (.s a) = cV σ lv fv (.s a)
          simp [cV, List.getElem?_set_ne (Ne.symm ne)]
  · rcases a with (_ | a) | a | a
    · cases ha
    · cases ha
    · cases ha
    · simp only at ha
      split at ha
      · rename_i e; subst e; simp [cD, setS, hj, Sl.d]
      · cases ha
  · by_cases q : i = j
    · subst q; simp [setS, hj] at hi; exact absurd hi.symm hne
    · have hi : m.sl[i]? = some (.val e) := by simpa [setS, List.getElem?_set_ne (Ne.symm q)] using hi
      obtain ⟨v, hv⟩ := r.vs i e hi hne
      exact ⟨v, by rw [List.getElem?_set_ne (Ne.symm q)]; exact hv⟩
  · by_cases q : i = j
    · subst q; simp [setS, hj] at hi
    · have hi : m.sl[i]? = some (.len k) := by simpa [setS, List.getElem?_set_ne (Ne.symm q)] using hi
      obtain ⟨h1, v, h2, h3⟩ := r.vl i k hi
      exact ⟨h1, v, h2, by rw [List.getElem?_set_ne (Ne.symm q)]; exact h3⟩
  · obtain ⟨v, hv⟩ := r.vs j d h hne
    simp [cV, hv]
/-- and filled again -/
theorem Rel.fill {j : Nat} {d : D} {v : V} (r : Rel K cl (psh d fd) (psh v fv) F H (σ.set j none) m lv) (hj : j < m.sl.length) (hv : d ≠ .abs → σ[j]? = some (some v)) (hk : ∀ k, m.sl[j]? ≠ some (.len k)) : Rel K cl fd fv F H σ (setS m j d) lv := by
  have r2 := r.store hj
  have hl : j < σ.length := by have := r.sl; rw [List.length_set] at this; omega
  have es : (σ.set j none).set j (some v) = σ.set j (some v) := by simp
  rw [es] at r2
  by_cases hd : d = .abs
  · subst hd
    refine ⟨r2.wf.map (fun a => match a with | .s i => open Classical in if i = j then none else some (.s i) | a => some a) (fun a b x h1 h2 => ?_) (fun a x hx => ?_) (fun a ha => ?_), r2.ll, by simpa using r2.sl, fun i e hi hne => ?_, fun i k hi => ?_⟩
    · rcases a with a | a | a <;> rcases b with b | b | b
      all_goals first | (cases h1; cases h2; rfl) | (cases h1; cases h2; done) | skip
      all_goals (simp only at h1 h2; first | (split at h1 <;> split at h2 <;> first | (cases h1; done) | (cases h2; done) | (have e := h1.trans h2.symm; simp at e; subst e; rfl)) | (split at h1 <;> first | (cases h1; done) | (have e := h1.trans h2.symm; simp at e)) | (split at h2 <;> first | (cases h2; done) | (have e := h1.trans h2.symm; simp at e)))
    · rcases a with a | a | a
      · cases hx; exact ⟨rfl, rfl⟩
      · cases hx; exact ⟨rfl, rfl⟩
      · simp only at hx
        split at hx
        · cases hx
        · rename_i ne
          cases hx
          refine ⟨rfl, ?_⟩
          simp [cV, List.getElem?_set_ne (Ne.symm ne)]
    · rcases a with a | a | a
      · cases ha
      · cases ha
      · simp only at ha
        split at ha
        · rename_i e; subst e; simp [cD, setS, hj, Sl.d]
        · cases ha
    · by_cases q : i = j
      · subst q; simp [setS, hj] at hi; exact absurd hi.symm hne
      · obtain ⟨u, hu⟩ := r2.vs i e hi hne
        exact ⟨u, by rw [List.getElem?_set_ne (Ne.symm q)] at hu; exact hu⟩
    · obtain ⟨h1, u, h2, h3⟩ := r2.vl i k hi
      by_cases q : i = j
      · subst q; simp [setS, hj] at hi
      · exact ⟨h1, u, h2, by rw [List.getElem?_set_ne (Ne.symm q)] at h3; exact h3⟩
  · have e2 : σ.set j (some v) = σ := by
      apply List.ext_getElem?
      intro i
      by_cases q : i = j
      · subst q; rw [List.getElem?_set_self hl]; exact (hv hd).symm
      · rw [List.getElem?_set_ne (Ne.symm q)]
    rw [e2] at r2
    exact r2
theorem setS_sl {m : M} {j : Nat} {d : D} : (setS m j d).sl.length = m.sl.length := by simp [setS]
theorem clrs_sl : ∀ {js : List Nat} {m : M}, (clrs js m).sl.length = m.sl.length
  | [], _ => rfl
  | j :: js, m => by unfold clrs; rw [setS_sl, clrs_sl]
/-- no slot that is lent is of the block's own -/
def NoLen (js : List Nat) (m : M) : Prop := ∀ j, j ∈ js → j < m.sl.length ∧ ∀ k, m.sl[j]? ≠ some (.len k)
theorem clr_ok : ∀ (js : List Nat) (m m' : M) (ds : List D), clr js m = some (m', ds) → Rel K cl fd fv F H σ m lv → ∃ vs, vs.length = ds.length ∧ Rel K cl (pshs .abs ds fd) (pshs .non vs fv) F H (wipe σ js) m' lv ∧ m'.sl.length = m.sl.length ∧ ds.length = js.length ∧
    (∀ j, j ∈ js → j < m.sl.length) ∧
    ∀ {ψ : Type} {gd : ψ → D} {gv : ψ → V} (F' H' : Hp) (m3 : M), Rel K cl (pshs .abs ds gd) (pshs .non vs gv) F' H' (wipe σ js) m3 lv → (∀ j, j ∈ js → j < m3.sl.length) → (∀ j, j ∈ js → ∀ k, m3.sl[j]? ≠ some (.len k)) → Rel K cl gd gv F' H' σ (rst js ds m3) lv
  | [], m, m', ds, h, r => by
    simp only [clr, Option.some.injEq, Prod.mk.injEq] at h
    obtain ⟨rfl, rfl⟩ := h
    exact ⟨[], rfl, r.tops r.wf.noTops, rfl, rfl, fun j hj => by simp at hj, fun F' H' m3 r3 _ _ => r3.untops⟩
  | j :: js, m, m', ds, h, r => by
    unfold clr at h
    cases e : clr js m with
    | none => rw [e] at h; cases h
    | some z =>
      obtain ⟨m1, ds1⟩ := z
      rw [e] at h
      simp only [Option.bind_some] at h
      split at h
      · rename_i d hd
        simp only [Option.some.injEq, Prod.mk.injEq] at h
        obtain ⟨rfl, rfl⟩ := h
        obtain ⟨vs, hl, r1, hs, hlen, hin, back⟩ := clr_ok js m m1 ds1 e r
        obtain ⟨v, r2, hv⟩ := r1.clear hd
        have hj : j < m1.sl.length := (List.getElem?_eq_some_iff.mp hd).1
        have up : ∀ {F H : Hp} {σ : St} {m : M}, Rel K cl (psh d (pshs .abs ds1 fd)) (psh v (pshs .non vs fv)) F H σ m lv → Rel K cl (pshs .abs (d :: ds1) fd) (pshs .non (v :: vs) fv) F H σ m lv := fun r => by
          refine ⟨r.wf.map (fun a => match a with | .fr (.inl 0) => some (.fr none) | .fr (.inl (i + 1)) => some (.fr (some (.inl i))) | .fr (.inr r) => some (.fr (some (.inr r))) | .l k => some (.l k) | .s i => some (.s i)) (fun a b r h1 h2 => ?_) (fun a r h => ?_) (fun a h => ?_), r.ll, r.sl, r.vs, r.vl⟩
          · have e := h1.trans h2.symm
            rcases a with ((_ | a) | a) | a | a <;> rcases b with ((_ | b) | b) | b | b <;> first | rfl | (simp at e; done) | (simp at e; subst e; rfl)
          · rcases a with ((_ | a) | a) | a | a <;> (cases h; exact ⟨rfl, rfl⟩)
          · rcases a with ((_ | a) | a) | a | a <;> cases h
        have dn : ∀ {ψ : Type} {fd : ψ → D} {fv : ψ → V} {F H : Hp} {σ : St} {m : M}, Rel K cl (pshs .abs (d :: ds1) fd) (pshs .non (v :: vs) fv) F H σ m lv → Rel K cl (psh d (pshs .abs ds1 fd)) (psh v (pshs .non vs fv)) F H σ m lv := fun r => by
          refine ⟨r.wf.map (fun a => match a with | .fr none => some (.fr (.inl 0)) | .fr (some (.inl i)) => some (.fr (.inl (i + 1))) | .fr (some (.inr r)) => some (.fr (.inr r)) | .l k => some (.l k) | .s i => some (.s i)) (fun a b r h1 h2 => ?_) (fun a r h => ?_) (fun a h => ?_), r.ll, r.sl, r.vs, r.vl⟩
          · have e := h1.trans h2.symm
            rcases a with (_ | (a | a)) | a | a <;> rcases b with (_ | (b | b)) | b | b <;> first | rfl | (simp at e; done) | (simp at e; subst e; rfl)
          · rcases a with (_ | (a | a)) | a | a <;> (cases h; exact ⟨rfl, rfl⟩)
          · rcases a with (_ | (a | a)) | a | a <;> cases h
        refine ⟨v :: vs, by simp [hl], up r2, by rw [setS_sl, hs], by simp [hlen], fun k hk => ?_, fun {ψ} {gd} {gv} F' H' m3 r3 h3 hk => ?_⟩
        · rcases List.mem_cons.mp hk with e | hk
          · subst e; omega
          · exact hin k hk
        · have r4 := (dn r3).fill (σ := wipe σ js) (h3 j (by simp)) hv (hk j (by simp))
          unfold rst
          refine back F' H' _ r4 (fun k hk' => by rw [setS_sl]; exact h3 k (by simp [hk'])) (fun k hk' l hl => ?_)
          by_cases q : k = j
          · subst q
            simp [setS] at hl
            have : k < m3.sl.length := h3 k (by simp)
            simp [this] at hl
          · exact hk k (by simp [hk']) l (by simpa [setS, List.getElem?_set_ne (Ne.symm q)] using hl)
      · cases h
theorem Rel.drop1 {j : Nat} (r : Rel K cl fd fv F H σ m lv) (hj : j < m.sl.length) (hk : ∀ k, m.sl[j]? ≠ some (.len k)) : Rel K cl fd fv F H (σ.set j none) (setS m j .abs) lv := by
  cases e : m.sl[j]? with
  | none => rw [List.getElem?_eq_none_iff] at e; omega
  | some s =>
    cases s with
    | len k => exact absurd e (hk k)
    | val d =>
      obtain ⟨v, r2, _⟩ := r.clear e
      exact r2.pop
theorem clrs_ok : ∀ (js : List Nat) (m : M), Rel K cl fd fv F H σ m lv → NoLen js m → Rel K cl fd fv F H (wipe σ js) (clrs js m) lv ∧ ∀ (i k : Nat), (clrs js m).sl[i]? = some (Sl.len k) → m.sl[i]? = some (Sl.len k)
  | [], m, r, _ => ⟨r, fun _ _ h => h⟩
  | j :: js, m, r, hn => by
    obtain ⟨ih, k1⟩ := clrs_ok js m r fun k hk => hn k (by simp [hk])
    refine ⟨ih.drop1 (by rw [clrs_sl]; exact (hn j (by simp)).1) (fun k h => (hn j (by simp)).2 k (k1 j k h)), fun i k h => ?_⟩
    unfold clrs at h
    by_cases q : i = j
    · subst q
      have : i < (clrs js m).sl.length := by rw [clrs_sl]; exact (hn i (by simp)).1
      simp [setS, this] at h
    · exact k1 i k (by simpa [setS, List.getElem?_set_ne (Ne.symm q)] using h)
theorem noLen_of {js : List Nat} {m : M} (h : allVal js m = true) : NoLen js m := fun j hj => by
  have q := List.all_eq_true.mp h j hj
  cases e : m.sl[j]? with
  | none => rw [e] at q; cases q
  | some s =>
    rw [e] at q
    cases s with
    | len k => cases q
    | val d => exact ⟨(List.getElem?_eq_some_iff.mp e).1, fun k h => by cases h⟩
end
abbrev W0 : WX := fun _ _ _ _ => False
section
variable {X : Cx} {cl : Nat → Addr} {xc : XC} {W : WX} {elt tg iter : Expr} {ifs : List Expr} {scope : Scope} {own : List (Str × Nat)} {pos : Pos} {it : M → R Itr} {g : TF} {t : M → R Bool} {f : M → R D}
theorem quiet_ok {α : Type} {r : R α} {a : α} {m : M} (h : quiet r = .ok a m) : r = .ok a m := by
  cases r <;> first | exact h | cases h
/-- the reading of a comprehension -/
theorem lc_read {js : List Nat} {σ : St} {H : Hp} {Q : VK} (hq : tE X.K cl xc W (dLc it g t f js) σ H Q) : tLc (tI X.K cl xc W it) (tG X.K cl js g) (tT X.K cl xc W0 t) (tE X.K cl xc W0 f) js σ H Q := by
  obtain ⟨φ, fd, fv, F, m, lv, r, q⟩ := hq
  refine ⟨φ, fd, fv, F, m, lv, r, ?_⟩
  unfold dLc at q
  cases e : it m with
  | no => simp only [e, R.bind] at q
  | ex c n m1 => simp only [e, R.bind] at q ⊢; exact q
  | ok w m1 =>
    simp only [e, R.bind] at q ⊢
    intro F1 H1 hv J hlen r1 hJ Da hDa
    cases ec : clr js m1 with
    | none => simp only [ec] at q
    | some z =>
      obtain ⟨m2, old⟩ := z
      simp only [ec] at q
      obtain ⟨ov, hol, r2, hs2, hlj, hin, back⟩ := clr_ok js m1 m2 old ec r1
      -- the loop ends well
      cases el : quiet (loopC g t f js w.items [] m2) with
      | no => simp only [el] at q
      | ex c n m3 => cases h : loopC g t f js w.items [] m2 <;> simp [h, quiet] at el
      | ok ds m3 =>
        simp only [el] at q
        have el := quiet_ok el
        by_cases hav : allVal js m3 = true
        case neg => rw [if_neg hav] at q; exact q.elim
        rw [if_pos hav] at q
        -- frames: what is held, what was kept, the new list
        refine ⟨fun i n H => n = w.items.length - i ∧ i ≤ w.items.length ∧ ∃ F m acc, Rel X.K cl (psh (.obj .own .lst acc) (pshs .abs old (pshs .abs w.hold fd))) (psh (.ref Da) (pshs .non ov (pshs .non hv fv))) F H (wipe σ js) m lv ∧ loopC g t f js (w.items.drop i) acc m = .ok ds m3,
          ⟨w.items.length, by simp, Nat.zero_le _, F1, m2, [], r2.push (r2.wf.newSh (ds := []) (vs := []) ⟨rfl, rfl⟩ hDa rfl), by simpa using el⟩, ?_⟩
        rintro i n H ⟨rfl, hi, F, m, acc, r, ql⟩
        have wh : WF X.K cl F H (pshs .abs w.hold (fun a : Option (Nat ⊕ Ix φ) => match a with | none => .obj .own .lst acc | some (.inl i) => old[i]?.getD .abs | some (.inr x) => cD m fd x)) (pshs .non hv (fun a : Option (Nat ⊕ Ix φ) => match a with | none => .ref Da | some (.inl i) => ov[i]?.getD .non | some (.inr x) => cV (wipe σ js) lv fv x)) := by
          refine r.wf.map (fun a => match a with | .inl i => some (.fr (some (.inr (.inl i)))) | .inr none => some (.fr none) | .inr (some (.inl i)) => some (.fr (some (.inl i))) | .inr (some (.inr (.fr x))) => some (.fr (some (.inr (.inr x)))) | .inr (some (.inr (.l k))) => some (.l k) | .inr (some (.inr (.s k))) => some (.s k)) (fun a b r h1 h2 => ?_) (fun a r h => ?_) (fun a h => ?_)
          · have e := h1.trans h2.symm
            rcases a with a | (_ | (a | (a | a | a))) <;> rcases b with b | (_ | (b | (b | b | b))) <;> first | rfl | (simp at e; done) | (simp at e; subst e; rfl)
          · rcases a with a | (_ | (a | (a | a | a))) <;> (cases h; exact ⟨rfl, rfl⟩)
          · rcases a with a | (_ | (a | (a | a | a))) <;> cases h
        obtain ⟨step, stop⟩ := hJ _ _ _ F H wh
        by_cases hlt : i < w.items.length
        · right
          obtain ⟨go, yld⟩ := step i w.items[i] (List.getElem?_eq_getElem hlt)
          refine ⟨go, fun H' => ∃ F m acc, Rel X.K cl (psh (.obj .own .lst acc) (pshs .abs old (pshs .abs w.hold fd))) (psh (.ref Da) (pshs .non ov (pshs .non hv fv))) F H' (wipe σ js) m lv ∧ loopC g t f js (w.items.drop (i + 1)) acc m = .ok ds m3, fun H' h => ⟨_, by omega, rfl, hlt, h⟩, fun x H' y => ?_⟩
          obtain ⟨F', w'⟩ := yld x H' y
          rw [List.drop_eq_getElem_cons hlt] at ql
          unfold loopC at ql
          cases eg : g w.items[i] m with
          | none => rw [eg] at ql; cases ql
          | some ma =>
            rw [eg] at ql
            have ql : ((t ma).bind fun b m => if b then (f m).bind fun y m => if acc.length < sizeLine ∧ isAbs y = false ∧ allVal js m = true then loopC g t f js (w.items.drop (i + 1)) (acc ++ [y]) (clrs js m) else .no
              else if allVal js m = true then loopC g t f js (w.items.drop (i + 1)) acc (clrs js m) else .no) = .ok ds m3 := ql
            have rp : Rel X.K cl (psh w.items[i] (psh (.obj .own .lst acc) (pshs .abs old (pshs .abs w.hold fd)))) (psh x (psh (.ref Da) (pshs .non ov (pshs .non hv fv)))) F' H' (wipe σ js) m lv := by
              refine ⟨w'.map (fun a => match a with | .fr none => some none | .fr (some none) => some (some (.inr none)) | .fr (some (some (.inl i))) => some (some (.inr (some (.inl i)))) | .fr (some (some (.inr (.inl i)))) => some (some (.inl i)) | .fr (some (some (.inr (.inr x)))) => some (some (.inr (some (.inr (.fr x))))) | .l k => some (some (.inr (some (.inr (.l k))))) | .s k => some (some (.inr (some (.inr (.s k)))))) (fun a b r h1 h2 => ?_) (fun a r h => ?_) (fun a h => ?_), r.ll, r.sl, r.vs, r.vl⟩
              · have e := h1.trans h2.symm
                rcases a with (_ | (_ | (a | (a | a)))) | a | a <;> rcases b with (_ | (_ | (b | (b | b)))) | b | b <;> first | rfl | (simp at e; done) | (simp at e; subst e; rfl)
              · rcases a with (_ | (_ | (a | (a | a)))) | a | a <;> (cases h; exact ⟨rfl, rfl⟩)
              · rcases a with (_ | (_ | (a | (a | a)))) | a | a <;> cases h
            refine ⟨_, _, _, F', m, lv, w.items[i], ma, rp, eg, fun F2 H2 σ2 chg r2 => ⟨wipe_chg chg, ?_⟩⟩
            have wc := wipe_chg chg
            refine ⟨_, _, _, F2, ma, lv, r2, ?_⟩
            cases et : t ma with
            | no => rw [et] at ql; cases ql
            | ex c n mb => rw [et] at ql; cases ql
            | ok b mb =>
              rw [et] at ql
              intro F3 H3 r3
              have ql : (if b then (f mb).bind fun y m => if acc.length < sizeLine ∧ isAbs y = false ∧ allVal js m = true then loopC g t f js (w.items.drop (i + 1)) (acc ++ [y]) (clrs js m) else .no
                else if allVal js mb = true then loopC g t f js (w.items.drop (i + 1)) acc (clrs js mb) else .no) = .ok ds m3 := ql
              cases b with
              | false =>
                rw [if_neg (by decide)] at ql ⊢
                split at ql
                · rename_i ha
                  obtain ⟨r4, _⟩ := clrs_ok js mb r3 (noLen_of ha)
                  rw [wc] at r4
                  exact ⟨F3, _, acc, r4, ql⟩
                · cases ql
              | true =>
                rw [if_pos rfl] at ql ⊢
                refine ⟨_, _, _, F3, mb, lv, r3, ?_⟩
                cases ef : f mb with
                | no => rw [ef] at ql; cases ql
                | ex c n mc => rw [ef] at ql; cases ql
                | ok y mc =>
                  rw [ef] at ql
                  intro F4 H4 yv r4
                  have ql : (if acc.length < sizeLine ∧ isAbs y = false ∧ allVal js mc = true then loopC g t f js (w.items.drop (i + 1)) (acc ++ [y]) (clrs js mc) else .no) = .ok ds m3 := ql
                  split at ql
                  · rename_i ha
                    -- the item joins the list
                    have wq : WF X.K cl F4 H4 (psh y (fun a : Option (Ix _) => match a with | none => D.obj .own .lst acc | some x => cD mc (pshs .abs old (pshs .abs w.hold fd)) x)) (psh yv (fun a : Option (Ix _) => match a with | none => V.ref Da | some x => cV σ2 lv (pshs .non ov (pshs .non hv fv)) x)) := by
                      refine r4.wf.map (fun a => match a with | none => some (.fr none) | some none => some (.fr (some none)) | some (some (.fr x)) => some (.fr (some (some x))) | some (some (.l k)) => some (.l k) | some (some (.s k)) => some (.s k)) (fun a b r h1 h2 => ?_) (fun a r h => ?_) (fun a h => ?_)
                      · have e := h1.trans h2.symm
                        rcases a with _ | (_ | (a | a | a)) <;> rcases b with _ | (_ | (b | b | b)) <;> first | rfl | (simp at e; done) | (simp at e; subst e; rfl)
                      · rcases a with _ | (_ | (a | a | a)) <;> (cases h; exact ⟨rfl, rfl⟩)
                      · rcases a with _ | (_ | (a | a | a)) <;> cases h
                    obtain ⟨a', vs, u, f', va, hu, hk, hvl, ry, put⟩ := wq.mutAt none (p := []) (k := .lst) (ds := acc) dget_nil down_nil
                    have va : V.ref a' = V.ref Da := va
                    cases va
                    have hk : u = .lst vs := hk
                    subst hk
                    refine ⟨vs, hu, by omega, ?_⟩
                    have w5 := put (.lst (vs ++ [yv])) .lst (acc ++ [y]) (vs ++ [yv]) rfl fun fps rs nd => ⟨fps ++ f', rs.app (Reps.one ry), nd, fun b h => h⟩
                    rw [dput_nil] at w5
                    have r5 : Rel X.K cl (psh (.obj .own .lst (acc ++ [y])) (pshs .abs old (pshs .abs w.hold fd))) (psh (.ref Da) (pshs .non ov (pshs .non hv fv))) F4 (upd H4 Da (.lst (vs ++ [yv]))) σ2 mc lv := by
                      refine ⟨w5.map (fun a => match a with | .fr none => some none | .fr (some x) => some (some (.fr x)) | .l k => some (some (.l k)) | .s k => some (some (.s k))) (fun a b r h1 h2 => ?_) (fun a r h => ?_) (fun a h => ?_), r4.ll, r4.sl, r4.vs, r4.vl⟩
                      · have e := h1.trans h2.symm
                        rcases a with (_ | a) | a | a <;> rcases b with (_ | b) | b | b <;> first | rfl | (simp at e; done) | (simp at e; subst e; rfl)
                      · rcases a with (_ | a) | a | a
                        · cases h; exact ⟨fset_same.symm, rfl⟩
                        · cases h; exact ⟨by rw [fset_ne (Option.some_ne_none _)]; rfl, rfl⟩
                        · cases h; exact ⟨by rw [fset_ne (Option.some_ne_none _)]; rfl, rfl⟩
                        · cases h; exact ⟨by rw [fset_ne (Option.some_ne_none _)]; rfl, rfl⟩
                      · rcases a with (_ | a) | a | a <;> cases h
                    obtain ⟨r6, _⟩ := clrs_ok js mc r5 (noLen_of ha.2.2)
                    rw [wc] at r6
                    exact ⟨F4, _, acc ++ [y], r6, ql⟩
                  · cases ql
        · left
          have ei : i = w.items.length := by omega
          subst ei
          rw [List.drop_length] at ql
          simp only [loopC, R.ok.injEq] at ql
          obtain ⟨rfl, rfl⟩ := ql
          refine ⟨stop, q F H (.ref Da) ?_⟩
          -- what was kept goes back, what was held goes
          have r7 : Rel X.K cl (pshs .abs old (psh (.obj .own .lst acc) (pshs .abs w.hold fd))) (pshs .non ov (psh (.ref Da) (pshs .non hv fv))) F H (wipe σ js) m lv := by
            refine ⟨r.wf.map (fun a => match a with | .fr (.inl i) => some (.fr (some (.inl i))) | .fr (.inr none) => some (.fr none) | .fr (.inr (some x)) => some (.fr (some (.inr x))) | .l k => some (.l k) | .s k => some (.s k)) (fun a b r h1 h2 => ?_) (fun a r h => ?_) (fun a h => ?_), r.ll, r.sl, r.vs, r.vl⟩
            · have e := h1.trans h2.symm
              rcases a with (a | (_ | a)) | a | a <;> rcases b with (b | (_ | b)) | b | b <;> first | rfl | (simp at e; done) | (simp at e; subst e; rfl)
            · rcases a with (a | (_ | a)) | a | a <;> (cases h; exact ⟨rfl, rfl⟩)
            · rcases a with (a | (_ | a)) | a | a <;> cases h
          have r8 := back F H m r7 (fun j hj => (noLen_of hav j hj).1) fun j hj => (noLen_of hav j hj).2
          refine ⟨r8.wf.map (fun a => match a with | .fr none => some (.fr none) | .fr (some x) => some (.fr (some (.inr x))) | .l k => some (.l k) | .s k => some (.s k)) (fun a b r h1 h2 => ?_) (fun a r h => ?_) (fun a h => ?_), r8.ll, r8.sl, r8.vs, r8.vl⟩
          · have e := h1.trans h2.symm
            rcases a with (_ | a) | a | a <;> rcases b with (_ | b) | b | b <;> first | rfl | (simp at e; done) | (simp at e; subst e; rfl)
          · rcases a with (_ | a) | a | a <;> (cases h; exact ⟨rfl, rfl⟩)
          · rcases a with (_ | a) | a | a <;> cases h
theorem ts_nil : PTs X [] (tT X.K cl xc W0 tYesD) := ⟨fun pins s σ H Q I ⟨_, _, _, _, _, _, r, q⟩ => pts_nil.run pins s σ H Q I (q _ _ r)⟩
theorem ts_one {c : Expr} (h : PTd X cl xc W0 c t) : PTs X [c] (tT X.K cl xc W0 t) := pts_one h
theorem d_lc (hc : X.calm = true) (hN : X.N.Nodup) (hi : PI X tg iter (tI X.K cl xc W it)) (ok : BlkOk X.N X.env.scope scope own)
    (hb : ∀ (s : Shared) (H : Hp) (C : Addr) (cs : List (Str × Addr)) (fp : List Addr), PG (X.blk s H scope (compEnvC scope cs C X.env) fp) tg (tG X.K cl (own.map (·.2)) g) ∧ PTs (X.blk s H scope (compEnvC scope cs C X.env) fp) ifs (tT X.K cl xc W0 t) ∧ PEd (X.blk s H scope (compEnvC scope cs C X.env) fp) cl xc W0 elt f)
    (hs : ∀ x, foldedSetIterable iter X.env x = pure x) : PEd X cl xc W (.ListComp elt [⟨tg, iter, ifs, 0⟩] scope pos) (dLc it g t f (own.map (·.2))) :=
  pe_imp (pe_lc hc hN hi ok (fun s H C cs fp => (hb s H C cs fp).1) (fun s H C cs fp => (hb s H C cs fp).2.1) (fun s H C cs fp => (hb s H C cs fp).2.2) hs) fun _ _ _ h => lc_read h
theorem st_setLc {i : Nat} {y : Str} {py spos : Pos} (hc : X.calm = true) (hN : X.N.Nodup) (hy : X.N[i]? = some y) (hyl : X.env.scope.names.lookup y = some .local)
    (hsw : swapsWith (.ListComp elt [⟨tg, iter, ifs, 0⟩] scope pos) (some (.Name y py)) spos.line X.env = pure true) (hi : PI X tg iter (tI X.K cl xc W it)) (ok : BlkOk X.N X.env.scope scope own)
    (hb : ∀ (s : Shared) (H : Hp) (C : Addr) (cs : List (Str × Addr)) (fp : List Addr), PG (X.blk s H scope (compEnvC scope cs C X.env) fp) tg (tG X.K cl (own.map (·.2)) g) ∧ PTs (X.blk s H scope (compEnvC scope cs C X.env) fp) ifs (tT X.K cl xc W0 t) ∧ PEd (X.blk s H scope (compEnvC scope cs C X.env) fp) cl xc W0 elt f)
    (hs : ∀ x, foldedSetIterable iter X.env x = pure x) : PSd X cl xc W (.Assign [.Name y py] (.ListComp elt [⟨tg, iter, ifs, 0⟩] scope pos) spos) (dAsg (gNm i) (dLc it g t f (own.map (·.2)))) :=
  ps_imp (ps_setLc hc hN hy hyl hsw hi ok (fun s H C cs fp => (hb s H C cs fp).1) (fun s H C cs fp => (hb s H C cs fp).2.1) (fun s H C cs fp => (hb s H C cs fp).2.2) hs) fun Dn σ H hq => lc_read (tS_E hq fun φ fd fv F H1 m lv x d r q => by
    cases e : gNm i d m with
    | none => simp only [e] at q; exact q.elim
    | some m1 =>
      simp only [e] at q
      unfold gNm at e
      split at e
      · rename_i hi; cases e
        exact q F H1 _ (r.store hi)
      · cases e)
end
end Rf
namespace Rf
open PySem L2
/-! things that are looked at, nothing changed -/
section
variable (K : PySem.W.Frag) (cl : Nat → Addr)
def Each (F H : Hp) : List D → List V → Prop
  | [], [] => True
  | d :: ds, v :: vs => (∃ fx, Rep K cl F H d v fx) ∧ Each F H ds vs
  | _, _ => False
def tK (f : SF) : TE := fun σ H Q => ∃ (φ : Type) (fd : φ → D) (fv : φ → V) (F : Hp) (m : M) (lv : List V), Rel K cl fd fv F H σ m lv ∧ ∃ d, f m = some d ∧ ∀ v fx, Rep K cl F H d v fx → Q v H
def pargs : List SF → M → Option (List D)
  | [], _ => some []
  | f :: fs, m => (f m).bind fun d => (pargs fs m).bind fun ds => some (d :: ds)
def tKA (fs : List SF) : TA := fun σ H Q => ∃ (φ : Type) (fd : φ → D) (fv : φ → V) (F : Hp) (m : M) (lv : List V), Rel K cl fd fv F H σ m lv ∧ ∃ ds, pargs fs m = some ds ∧ ∀ vs, Each K cl F H ds vs → Q vs H
end
def pLd (i : Nat) (ps : List Stp) : SF := fun m => match resolve m (rd m i) ps with
  | some (_, x) => if isAbs x then none else some x
  | none => none
def sS (s : SF) : SF := fun m => (s m).bind toSc
def pOp (op : List D → Option D) (fs : List SF) : SF := fun m => (pargs fs m).bind op
section
variable {K : PySem.W.Frag} {cl : Nat → Addr} {F H : Hp}
theorem Each.of : ∀ {ds : List D} {vs : List V} {fp : List Addr}, Reps K cl F H ds vs fp → Each K cl F H ds vs
  | [], _, _, r => by obtain ⟨rfl, _⟩ := r; trivial
  | d :: ds, _, _, r => by
    obtain ⟨v, vr, f1, f2, rfl, _, r1, r2⟩ := r
    exact ⟨⟨f1, r1⟩, Each.of r2⟩
theorem Each.len : ∀ {ds : List D} {vs : List V}, Each K cl F H ds vs → vs.length = ds.length
  | [], [], _ => rfl
  | _ :: _, _ :: _, h => by simp [Each.len h.2]
  | [], _ :: _, h => h.elim
  | _ :: _, [], h => h.elim
theorem Each.get : ∀ {ds : List D} {vs : List V}, Each K cl F H ds vs → ∀ {i : Nat} {d : D}, ds[i]? = some d → ∃ v fx, vs[i]? = some v ∧ Rep K cl F H d v fx
  | [], [], _, i, _, h => by simp at h
  | _ :: _, _ :: _, h, 0, _, e => by
    simp at e; subst e
    obtain ⟨fx, r⟩ := h.1
    exact ⟨_, fx, rfl, r⟩
  | _ :: _, _ :: _, h, i + 1, _, e => by
    obtain ⟨v, fx, h1, h2⟩ := Each.get h.2 (i := i) (by simpa using e)
    exact ⟨v, fx, by simpa using h1, h2⟩
theorem Each.map {f : Int → D} {g : Int → V} (h : ∀ i v fx, Rep K cl F H (f i) v fx → v = g i) : ∀ {ns : List Int} {vs : List V}, Each K cl F H (ns.map f) vs → vs = ns.map g
  | [], [], _ => rfl
  | n :: ns, v :: vs, e => by
    obtain ⟨⟨fx, r⟩, e2⟩ := e
    rw [List.map_cons, h n v fx r, Each.map h e2]
  | [], _ :: _, e => e.elim
  | _ :: _, [], e => e.elim
theorem Rep.opn (ex : Ex F H) {o : Ow} {k : Kd} {ds : List D} {v : V} {fp : List Addr} (r : Rep K cl F H (.obj o k ds) v fp) : ∃ a vs, v = .ref a ∧ kRd K cl H a k vs ∧ Each K cl F H ds vs ∧ (o ≠ .con → ∃ u, H a = some u ∧ kHO cl k vs u) := by
  obtain ⟨a, vs, fps, rfl, n, rs⟩ := r
  refine ⟨a, vs, rfl, n.rd ex, Each.of rs, fun ho => ?_⟩
  cases o with
  | own => exact n.2.1
  | shr => obtain ⟨⟨u, h1, h2⟩, _⟩ := n; exact ⟨u, ex _ _ h1, h2⟩
  | con => exact absurd rfl ho
def CaP (K : PySem.W.Frag) (cl : Nat → Addr) (r : List V → Hp → VK → Prop) (op : List D → Option D) : Prop := ∀ (F H : Hp) (ds : List D) (vs : List V) (z : D) (Q : VK), Ex F H → op ds = some z → Each K cl F H ds vs → isSc z = true ∧ ((∀ v, Scal z v → Q v H) → r vs H Q)
def OpQ (K : PySem.W.Frag) (cl : Nat → Addr) (r : R2) (op : D → D → Option D) : Prop := ∀ (F H : Hp) (x y z : D) (vx vy : V) (fx fy : List Addr) (Q : VK), Ex F H → op x y = some z → Rep K cl F H x vx fx → Rep K cl F H y vy fy → isSc z = true ∧ ((∀ v, Scal z v → Q v H) → r vx vy H Q)
end
section
variable {X : Cx} {cl : Nat → Addr} {xc : XC} {W : WX} {e a b c : Expr} {pos : Pos} {s t f g : SF} {es : List Expr} {fs : List SF}
abbrev PEp (X : Cx) (cl : Nat → Addr) (e : Expr) (f : SF) : Prop := PE X e (tK X.K cl f)
abbrev PAp (X : Cx) (cl : Nat → Addr) (es : List Expr) (fs : List SF) : Prop := PA X es (tKA X.K cl fs)
theorem p_s (h : PEs X cl e s) : PEp X cl e (sS s) := pe_imp h fun σ H Q ⟨φ, fd, fv, F, m, lv, r, d, ed, q⟩ => by
  unfold sS at ed
  cases es : s m with
  | none => rw [es] at ed; cases ed
  | some d' =>
    rw [es] at ed
    obtain ⟨rfl, hd⟩ := toSc_some (show toSc d' = some d from ed)
    exact ⟨φ, fd, fv, F, m, lv, r, d', es, hd, fun v hv => q v [] hv.rep⟩
theorem p_l {i : Nat} {ps : List Stp} (ha : PEl X cl a i ps) : PEp X cl a (pLd i ps) :=
  pe_imp ha fun σ H Q ⟨φ, fd, fv, F, m, lv, r, d, ed, q⟩ => by
    unfold pLd at ed
    cases er : resolve m (rd m i) ps with
    | none => simp only [er] at ed; cases ed
    | some z =>
      obtain ⟨p, x⟩ := z
      simp only [er] at ed
      split at ed
      · cases ed
      · rename_i hx
        cases ed
        have hi : isAbs (rd m i) = false := by
          cases hm : rd m i with
          | abs =>
            have := resolve_get er
            rw [hm] at this
            cases p with
            | nil => simp [dget] at this; subst this; simp [isAbs] at hx
            | cons _ _ => simp [dget] at this
          | _ => rfl
        obtain ⟨q1, q2⟩ := r.at hi
        obtain ⟨w, fx, va, rx⟩ := r.wf.peek (root φ m i) (p := p) (x := d) (by rw [q1]; exact resolve_get er)
        rw [q1] at va
        exact ⟨φ, fd, fv, F, m, lv, r, hi, p, d, w, er, va, q w fx rx⟩
theorem pp_nil : PAp X cl [] [] := pa_imp pa_nil fun σ H Q ⟨φ, fd, fv, F, m, lv, r, ds, e, q⟩ => by
  cases e
  exact q [] trivial
theorem pp_cons (ha : PEp X cl e f) (hr : PAp X cl es fs) (hs : starEach (e :: es) X.env = (false, eval e X.env) :: starEach es X.env) : PAp X cl (e :: es) (f :: fs) :=
  pa_imp (pa_cons ha hr hs) fun σ H Q ⟨φ, fd, fv, F, m, lv, r, ds, e, q⟩ => by
    unfold pargs at e
    cases e1 : f m with
    | none => rw [e1] at e; cases e
    | some d =>
      rw [e1] at e
      simp only [Option.bind_some] at e
      cases e2 : pargs fs m with
      | none => rw [e2] at e; cases e
      | some dr =>
        rw [e2] at e
        cases e
        exact ⟨φ, fd, fv, F, m, lv, r, d, e1, fun v fx rv => ⟨φ, fd, fv, F, m, lv, r, dr, e2, fun vs ev => q _ ⟨⟨fx, rv⟩, ev⟩⟩⟩
theorem ca_of {r : List V → Hp → VK → Prop} {op : List D → Option D} (hs : CaP X.K cl r op) {σ : St} {H : Hp} {Q : VK} (h : tP X.K cl (pOp op fs) σ H Q) : tCB r (tKA X.K cl fs) σ H Q := by
  obtain ⟨φ, fd, fv, F, m, lv, rl, d, e, hd, q⟩ := h
  unfold pOp at e
  cases e1 : pargs fs m with
  | none => rw [e1] at e; cases e
  | some ds =>
    rw [e1] at e
    exact ⟨φ, fd, fv, F, m, lv, rl, ds, e1, fun vs ev => (hs F H ds vs d Q rl.wf.ex e ev).2 q⟩
theorem s_blt {x : Str} {p : Pos} {id : String} {r : List V → Hp → VK → Prop} {op : List D → Option D} (hc : CallR X (.builtin id) r) (hs : CaP X.K cl r op) (hg : Gl X x) (hm : X.mg x = none) (hv : bootBuiltins x = some (.builtin id)) (ha : PAp X cl (e :: es) fs) (hn : x ≠ "__name__") (hdb : (x == ("__debug__" : Str)) = false)
    (he : starEach (e :: es) X.env = (false, eval e X.env) :: starEach es X.env) (hpl : (backTo pos (starEach es X.env)).any (·.1) = false) : PEs X cl (.Call (.Name x p) (e :: es) [] pos) (pOp op fs) :=
  pe_imp (pe_callB hc hg hm hv ha hn hdb he hpl) fun σ H Q q => ca_of hs q
theorem s_bltT {x : Str} {p : Pos} {T : String} {r : List V → Hp → VK → Prop} {op : List D → Option D} (hc : CallR X (.type T) r) (hs : CaP X.K cl r op) (hg : Gl X x) (hm : X.mg x = none) (hv : bootBuiltins x = some (.type T)) (ha : PAp X cl (e :: es) fs) (hn : x ≠ "__name__") (hdb : (x == ("__debug__" : Str)) = false)
    (he : starEach (e :: es) X.env = (false, eval e X.env) :: starEach es X.env) (hpl : (backTo pos (starEach es X.env)).any (·.1) = false) : PEs X cl (.Call (.Name x p) (e :: es) [] pos) (pOp op fs) :=
  pe_imp (pe_callTy hc hg hm hv ha hn hdb he hpl) fun σ H Q q => ca_of hs q
theorem tK2 {op : D → D → Option D} {r2 : R2} (hs : OpQ X.K cl r2 op) {σ : St} {H : Hp} {Q : VK} (h : tP X.K cl (sBin op f g) σ H Q) : tOp r2 (tK X.K cl f) (tK X.K cl g) σ H Q := by
  obtain ⟨φ, fd, fv, F, m, lv, r, d, e, hd, q⟩ := h
  obtain ⟨x, y, ex, ey, ez⟩ := sBin_some e
  exact ⟨φ, fd, fv, F, m, lv, r, x, ex, fun vx fx hx => ⟨φ, fd, fv, F, m, lv, r, y, ey, fun vy fy hy => (hs F H x y d vx vy fx fy Q r.wf.ex ez hx hy).2 q⟩⟩
theorem s_cmpP {op : CmpOp} {r : R2} {o : D → D → Option D} (ho : OpR X (compareOp op) r) (hs : OpQ X.K cl r o) (ha : PEp X cl a f) (hb : PEp X cl b g) (hm : behindInMarks op b = false) : PEs X cl (.Compare a [op] [b] pos) (sBin o f g) :=
  pe_imp (pe_cmpR ho ha hb hm) fun σ H Q h => tK2 hs h
theorem t_cmpP {op : CmpOp} {r : R2} {o : D → D → Option D} (ho : OpR X (compareOp op) r) (hs : OpQ X.K cl r o) (ha : PEp X cl a f) (hb : PEp X cl b g) (hm : behindInMarks op b = false) : PTs' X cl (.Compare a [op] [b] pos) (sT (sBin o f g)) :=
  pt_imp (pt_cmpR ho ha hb hm) fun σ H Q ⟨φ, fd, fv, F, m, lv, rl, k, ek, q⟩ => by
    unfold sT at ek
    cases hs' : sBin o f g m with
    | none => rw [hs'] at ek; cases ek
    | some d =>
      rw [hs'] at ek
      have ed := bOf_some (show bOf d = some k from ek)
      subst ed
      exact tK2 hs ⟨φ, fd, fv, F, m, lv, rl, _, hs', rfl, fun v hv => ⟨k, hv, q⟩⟩
/-! is None -/
def oIsP (neg : Bool) : D → Option D
  | .abs => none
  | .pin _ _ => none
  | .non => some (.bl (!neg))
  | _ => some (.bl neg)
theorem isP_of (neg : Bool) {F H : Hp} {x z : D} {v : V} {fx : List Addr} (e : oIsP neg x = some z) (r : Rep X.K cl F H x v fx) : z = .bl (if neg then !decide (v = .non) else decide (v = .non)) := by
  cases x with
  | abs => cases e
  | pin a u => cases e
  | non => obtain ⟨rfl, _⟩ := r; cases e; cases neg <;> rfl
  | bl b => obtain ⟨rfl, _⟩ := r; cases e; cases neg <;> rfl
  | int b => obtain ⟨rfl, _⟩ := r; cases e; cases neg <;> rfl
  | str b => obtain ⟨rfl, _⟩ := r; cases e; cases neg <;> rfl
  | obj o k ds => obtain ⟨a, vs, fps, rfl, _⟩ := r; cases e; cases neg <;> rfl
theorem un_of {o : D → Option D} {P : V → V} (hu : ∀ (F H : Hp) (x z : D) (v : V) (fx : List Addr), o x = some z → Rep X.K cl F H x v fx → isSc z = true ∧ Scal z (P v)) {σ : St} {H : Hp} {Q : VK} (h : tP X.K cl (sUn o f) σ H Q) : tK X.K cl f σ H (fun v H1 => Q (P v) H1) := by
  obtain ⟨φ, fd, fv, F, m, lv, r, d, e, hd, q⟩ := h
  unfold sUn at e
  cases ef : f m with
  | none => rw [ef] at e; cases e
  | some x =>
    rw [ef] at e
    exact ⟨φ, fd, fv, F, m, lv, r, x, ef, fun v fx rx => q _ (hu F H x d v fx e rx).2⟩
theorem s_isN {j : Nat} {p : Pos} (h : PEp X cl a f) : PEs X cl (.Compare a [.Is] [.Constant .none j p] pos) (sUn (oIsP false) f) :=
  pe_imp (pe_cmp (pc_isN h)) fun σ H Q q => un_of (P := fun v => .bl (decide (v = .non))) (fun F H x z v fx e r => by rw [isP_of false e r]; exact ⟨rfl, rfl⟩) q
theorem s_isnN {j : Nat} {p : Pos} (h : PEp X cl a f) : PEs X cl (.Compare a [.IsNot] [.Constant .none j p] pos) (sUn (oIsP true) f) :=
  pe_imp (pe_cmp (pc_notN h)) fun σ H Q q => un_of (P := fun v => .bl (!decide (v = .non))) (fun F H x z v fx e r => by rw [isP_of true e r]; exact ⟨rfl, rfl⟩) q
theorem tTs {s : SF} {σ : St} {H : Hp} {Q : Bool → Hp → Prop} (h : tPT X.K cl (sT s) σ H Q) : tP X.K cl s σ H (fun v H1 => ∃ b, v = .bl b ∧ Q b H1) := by
  obtain ⟨φ, fd, fv, F, m, lv, r, b, eb, q⟩ := h
  unfold sT at eb
  cases hs : s m with
  | none => rw [hs] at eb; cases eb
  | some d =>
    rw [hs] at eb
    have ed := bOf_some (show bOf d = some b from eb)
    subst ed
    exact ⟨φ, fd, fv, F, m, lv, r, _, hs, rfl, fun v hv => ⟨b, hv, q⟩⟩
theorem ts_isN {j : Nat} {p : Pos} (h : PEp X cl a f) : PTs' X cl (.Compare a [.Is] [.Constant .none j p] pos) (sT (sUn (oIsP false) f)) :=
  pt_imp (pt_cmp (pc_isN h)) fun σ H Q q => un_of (P := fun v => .bl (decide (v = .non))) (fun F H x z v fx e r => by rw [isP_of false e r]; exact ⟨rfl, rfl⟩) (tTs q)
theorem ts_isnN {j : Nat} {p : Pos} (h : PEp X cl a f) : PTs' X cl (.Compare a [.IsNot] [.Constant .none j p] pos) (sT (sUn (oIsP true) f)) :=
  pt_imp (pt_cmp (pc_notN h)) fun σ H Q q => un_of (P := fun v => .bl (!decide (v = .non))) (fun F H x z v fx e r => by rw [isP_of true e r]; exact ⟨rfl, rfl⟩) (tTs q)
end
/-! ### built-in functions -/
def bLen : List D → Option D
  | [.obj _ .lst ds] => some (.int ds.length)
  | [.obj _ .tup ds] => some (.int ds.length)
  | [.str s] => if s.length ≤ sizeLine then some (.int s.length) else none
  | _ => none
def bLenD : List D → Option D
  | [.obj o (.dic ks) ds] => if o = .con then none else some (.int ks.length)
  | _ => none
def bInt : List D → Option D
  | [.int i] => some (.int i)
  | [.bl k] => some (.int (if k then 1 else 0))
  | _ => none
def bAbs : List D → Option D
  | [.int i] => some (.int (if i < 0 then -i else i))
  | _ => none
def bMin2 : List D → Option D
  | [.int i, .int j] => some (.int (if j < i then j else i))
  | _ => none
def bMax2 : List D → Option D
  | [.int i, .int j] => some (.int (if j > i then j else i))
  | _ => none
def bOrd : List D → Option D
  | [.str x] => if x.length = 1 then some (.int (x.cps.getD 0 0 : Nat)) else none
  | _ => none
def bStrI : List D → Option D
  | [.int i] => if i.natAbs.log2 < 1920 then some (.str (toString i)) else none
  | _ => none
def intsD : List D → Option (List Int)
  | [] => some []
  | .int i :: ds => (intsD ds).map (i :: ·)
  | _ :: _ => none
def blsD : List D → Option (List Bool)
  | [] => some []
  | .bl i :: ds => (blsD ds).map (i :: ·)
  | _ :: _ => none
def bSum : List D → Option D
  | [.obj _ .lst ds] => (intsD ds).map fun ns => .int ns.sum
  | _ => none
def maxI : Int → List Int → Int
  | a, [] => a
  | a, b :: l => maxI (if b > a then b else a) l
def minI : Int → List Int → Int
  | a, [] => a
  | a, b :: l => minI (if b < a then b else a) l
def bMax : List D → Option D
  | [.obj _ .lst ds] => (intsD ds).bind fun ns => match ns with
    | [] => none
    | n :: ns => some (.int (maxI n ns))
  | _ => none
def bMin : List D → Option D
  | [.obj _ .lst ds] => (intsD ds).bind fun ns => match ns with
    | [] => none
    | n :: ns => some (.int (minI n ns))
  | _ => none
def bAll : List D → Option D
  | [.obj _ .lst ds] => (blsD ds).map fun ns => .bl (ns.all id)
  | _ => none
def bAny : List D → Option D
  | [.obj _ .lst ds] => (blsD ds).map fun ns => .bl (ns.any id)
  | _ => none
theorem ints_some : ∀ {ds : List D} {ns : List Int}, intsD ds = some ns → ds = ns.map D.int
  | [], _, h => by cases h; rfl
  | d :: ds, ns, h => by
    cases d with
    | int i =>
      cases e : intsD ds with
      | none => simp [intsD, e] at h
      | some r =>
        simp [intsD, e] at h
        subst h
        rw [ints_some e]; rfl
    | _ => cases h
theorem bls_some : ∀ {ds : List D} {ns : List Bool}, blsD ds = some ns → ds = ns.map D.bl
  | [], _, h => by cases h; rfl
  | d :: ds, ns, h => by
    cases d with
    | bl i =>
      cases e : blsD ds with
      | none => simp [blsD, e] at h
      | some r =>
        simp [blsD, e] at h
        subst h
        rw [bls_some e]; rfl
    | _ => cases h
theorem maxI_ok : ∀ (l : List Int) (a : Int), maxI a l ∈ a :: l ∧ ∀ y, y ∈ a :: l → y ≤ maxI a l
  | [], a => by simp [maxI]
  | b :: l, a => by
    unfold maxI
    by_cases h : b > a
    · rw [if_pos h]
      obtain ⟨h1, h2⟩ := maxI_ok l b
      refine ⟨by simp only [List.mem_cons] at h1 ⊢; exact .inr h1, fun y hy => ?_⟩
      have h3 := h2 b (by simp)
      simp only [List.mem_cons] at hy
      rcases hy with rfl | hy
      · omega
      · exact h2 y (by simpa using hy)
    · rw [if_neg h]
      obtain ⟨h1, h2⟩ := maxI_ok l a
      refine ⟨by simp only [List.mem_cons] at h1 ⊢; rcases h1 with h1 | h1 <;> simp [h1], fun y hy => ?_⟩
      have h3 := h2 a (by simp)
      simp only [List.mem_cons] at hy
      rcases hy with rfl | rfl | hy
      · exact h3
      · omega
      · exact h2 y (by simp [hy])
theorem minI_ok : ∀ (l : List Int) (a : Int), minI a l ∈ a :: l ∧ ∀ y, y ∈ a :: l → minI a l ≤ y
  | [], a => by simp [minI]
  | b :: l, a => by
    unfold minI
    by_cases h : b < a
    · rw [if_pos h]
      obtain ⟨h1, h2⟩ := minI_ok l b
      refine ⟨by simp only [List.mem_cons] at h1 ⊢; exact .inr h1, fun y hy => ?_⟩
      have h3 := h2 b (by simp)
      simp only [List.mem_cons] at hy
      rcases hy with rfl | hy
      · omega
      · exact h2 y (by simpa using hy)
    · rw [if_neg h]
      obtain ⟨h1, h2⟩ := minI_ok l a
      refine ⟨by simp only [List.mem_cons] at h1 ⊢; rcases h1 with h1 | h1 <;> simp [h1], fun y hy => ?_⟩
      have h3 := h2 a (by simp)
      simp only [List.mem_cons] at hy
      rcases hy with rfl | rfl | hy
      · exact h3
      · omega
      · exact h2 y (by simp [hy])
section
variable {K : PySem.W.Frag} {cl : Nat → Addr}
theorem each1 {F H : Hp} {d : D} {vs : List V} (h : Each K cl F H [d] vs) : ∃ v fx, vs = [v] ∧ Rep K cl F H d v fx := by
  match vs, h with
  | [v], h => obtain ⟨⟨fx, r⟩, _⟩ := h; exact ⟨v, fx, rfl, r⟩
theorem each2 {F H : Hp} {d e : D} {vs : List V} (h : Each K cl F H [d, e] vs) : ∃ v u fx fy, vs = [v, u] ∧ Rep K cl F H d v fx ∧ Rep K cl F H e u fy := by
  match vs, h with
  | [v, u], h => obtain ⟨⟨fx, r⟩, ⟨fy, r2⟩, _⟩ := h; exact ⟨v, u, fx, fy, rfl, r, r2⟩
theorem Each.intD {F H : Hp} {ns : List Int} {vs : List V} (h : Each K cl F H (ns.map D.int) vs) : vs = ns.map V.int := Each.map (f := D.int) (fun i v fx r => (show v = .int i ∧ _ from r).1) h
theorem Each.blD {F H : Hp} : ∀ {ns : List Bool} {vs : List V}, Each K cl F H (ns.map D.bl) vs → vs = ns.map V.bl
  | [], [], _ => rfl
  | n :: ns, v :: vs, e => by
    obtain ⟨⟨fx, r⟩, e2⟩ := e
    rw [List.map_cons, ← Each.blD e2, show v = V.bl n from r.1]
  | [], _ :: _, e => e.elim
  | _ :: _, [], e => e.elim
theorem b_len : CaP K cl (fun xs H Q => ∃ x n, xs = [x] ∧ LenV K x H n ∧ Q (.int n) H) bLen := by
  intro F H ds vs z Q ex e h
  unfold bLen at e
  split at e
  · obtain ⟨v, fx, rfl, r⟩ := each1 h
    cases e
    obtain ⟨a, us, rfl, k, ea, _⟩ := r.opn ex
    exact ⟨rfl, fun q => ⟨_, _, rfl, .inl ⟨us, k, rfl⟩, by rw [ea.len]; exact q _ rfl⟩⟩
  · obtain ⟨v, fx, rfl, r⟩ := each1 h
    cases e
    obtain ⟨a, us, rfl, k, ea, _⟩ := r.opn ex
    exact ⟨rfl, fun q => ⟨_, _, rfl, .inr ⟨us, k, rfl⟩, by rw [ea.len]; exact q _ rfl⟩⟩
  · obtain ⟨v, fx, rfl, r⟩ := each1 h
    split at e
    · rename_i hl
      cases e
      obtain ⟨rfl, _⟩ := r
      exact ⟨rfl, fun q => ⟨_, _, rfl, ⟨hl, rfl⟩, q _ rfl⟩⟩
    · cases e
  · cases e
theorem b_lenD : CaP K cl (fun xs H Q => ∃ a kvs, xs = [V.ref a] ∧ H a = some (.dK kvs) ∧ Q (.int kvs.length) H) bLenD := by
  intro F H ds vs z Q ex e h
  unfold bLenD at e
  split at e
  · obtain ⟨v, fx, rfl, r⟩ := each1 h
    split at e
    · cases e
    · rename_i ho
      cases e
      obtain ⟨a, us, rfl, k, ea, ku⟩ := r.opn ex
      obtain ⟨u, hu, rfl, hl⟩ := ku ho
      exact ⟨rfl, fun q => ⟨a, _, rfl, hu, by rw [List.length_zip, hl, Nat.min_self, ← hl]; exact q _ rfl⟩⟩
  · cases e
theorem b_int : CaP K cl (fun xs H Q => (∃ i, xs = [.int i] ∧ Q (.int i) H) ∨ ∃ k, xs = [.bl k] ∧ Q (.int (if k then 1 else 0)) H) bInt := by
  intro F H ds vs z Q ex e h
  unfold bInt at e
  split at e
  · obtain ⟨v, fx, rfl, rfl, _⟩ := each1 h
    cases e
    exact ⟨rfl, fun q => .inl ⟨_, rfl, q _ rfl⟩⟩
  · obtain ⟨v, fx, rfl, rfl, _⟩ := each1 h
    cases e
    exact ⟨rfl, fun q => .inr ⟨_, rfl, q _ rfl⟩⟩
  · cases e
theorem b_abs : CaP K cl (fun xs H Q => ∃ i, xs = [.int i] ∧ Q (.int (if i < 0 then -i else i)) H) bAbs := by
  intro F H ds vs z Q ex e h
  unfold bAbs at e
  split at e
  · obtain ⟨v, fx, rfl, rfl, _⟩ := each1 h
    cases e
    exact ⟨rfl, fun q => ⟨_, rfl, q _ rfl⟩⟩
  · cases e
theorem b_min2 : CaP K cl (fun xs H Q => ∃ i j, xs = [.int i, .int j] ∧ Q (.int (if j < i then j else i)) H) bMin2 := by
  intro F H ds vs z Q ex e h
  unfold bMin2 at e
  split at e
  · obtain ⟨v, u, fx, fy, rfl, ⟨rfl, _⟩, rfl, _⟩ := each2 h
    cases e
    exact ⟨rfl, fun q => ⟨_, _, rfl, q _ rfl⟩⟩
  · cases e
theorem b_max2 : CaP K cl (fun xs H Q => ∃ i j, xs = [.int i, .int j] ∧ Q (.int (if j > i then j else i)) H) bMax2 := by
  intro F H ds vs z Q ex e h
  unfold bMax2 at e
  split at e
  · obtain ⟨v, u, fx, fy, rfl, ⟨rfl, _⟩, rfl, _⟩ := each2 h
    cases e
    exact ⟨rfl, fun q => ⟨_, _, rfl, q _ rfl⟩⟩
  · cases e
theorem b_ord : CaP K cl (fun xs H Q => ∃ x, xs = [.str x] ∧ x.length = 1 ∧ Q (.int (x.cps.getD 0 0 : Nat)) H) bOrd := by
  intro F H ds vs z Q ex e h
  unfold bOrd at e
  split at e
  · obtain ⟨v, fx, rfl, rfl, _⟩ := each1 h
    split at e
    · rename_i hl
      cases e
      exact ⟨rfl, fun q => ⟨_, rfl, hl, q _ rfl⟩⟩
    · cases e
  · cases e
theorem b_strI : CaP K cl (fun xs H Q => ∃ i, xs = [.int i] ∧ i.natAbs.log2 < 1920 ∧ Q (.str (toString i)) H) bStrI := by
  intro F H ds vs z Q ex e h
  unfold bStrI at e
  split at e
  · obtain ⟨v, fx, rfl, rfl, _⟩ := each1 h
    split at e
    · rename_i hl
      cases e
      exact ⟨rfl, fun q => ⟨_, rfl, hl, q _ rfl⟩⟩
    · cases e
  · cases e
theorem b_sum : CaP K cl (rSum K) bSum := by
  intro F H ds vs z Q ex e h
  unfold bSum at e
  split at e
  · obtain ⟨v, fx, rfl, r⟩ := each1 h
    rename_i o ds
    cases ei : intsD ds with
    | none => rw [ei] at e; cases e
    | some ns =>
      rw [ei] at e; cases e
      obtain ⟨a, us, rfl, k, ea, _⟩ := r.opn ex
      rw [ints_some ei] at ea
      have := ea.intD
      subst this
      exact ⟨rfl, fun q => ⟨a, ns, rfl, k, q _ rfl⟩⟩
  · cases e
theorem b_max : CaP K cl (rMax K) bMax := by
  intro F H ds vs z Q ex e h
  unfold bMax at e
  split at e
  · obtain ⟨v, fx, rfl, r⟩ := each1 h
    rename_i o ds
    cases ei : intsD ds with
    | none => rw [ei] at e; cases e
    | some ns =>
      rw [ei] at e
      cases ns with
      | nil => cases e
      | cons n ns =>
        cases e
        obtain ⟨a, us, rfl, k, ea, _⟩ := r.opn ex
        rw [ints_some ei] at ea
        have := ea.intD
        subst this
        refine ⟨rfl, fun q => ⟨a, n :: ns, rfl, k, by simp, fun m h1 h2 => ?_⟩⟩
        obtain ⟨g1, g2⟩ := maxI_ok ns n
        have : m = maxI n ns := Int.le_antisymm (g2 m h1) (h2 _ g1)
        rw [this]; exact q _ rfl
  · cases e
theorem b_min : CaP K cl (rMin K) bMin := by
  intro F H ds vs z Q ex e h
  unfold bMin at e
  split at e
  · obtain ⟨v, fx, rfl, r⟩ := each1 h
    rename_i o ds
    cases ei : intsD ds with
    | none => rw [ei] at e; cases e
    | some ns =>
      rw [ei] at e
      cases ns with
      | nil => cases e
      | cons n ns =>
        cases e
        obtain ⟨a, us, rfl, k, ea, _⟩ := r.opn ex
        rw [ints_some ei] at ea
        have := ea.intD
        subst this
        refine ⟨rfl, fun q => ⟨a, n :: ns, rfl, k, by simp, fun m h1 h2 => ?_⟩⟩
        obtain ⟨g1, g2⟩ := minI_ok ns n
        have : m = minI n ns := Int.le_antisymm (h2 _ g1) (g2 m h1)
        rw [this]; exact q _ rfl
  · cases e
theorem b_all : CaP K cl (rAll K) bAll := by
  intro F H ds vs z Q ex e h
  unfold bAll at e
  split at e
  · obtain ⟨v, fx, rfl, r⟩ := each1 h
    rename_i o ds
    cases ei : blsD ds with
    | none => rw [ei] at e; cases e
    | some ns =>
      rw [ei] at e; cases e
      obtain ⟨a, us, rfl, k, ea, _⟩ := r.opn ex
      rw [bls_some ei] at ea
      have := ea.blD
      subst this
      exact ⟨rfl, fun q => ⟨a, ns, rfl, k, q _ rfl⟩⟩
  · cases e
theorem b_any : CaP K cl (rAny K) bAny := by
  intro F H ds vs z Q ex e h
  unfold bAny at e
  split at e
  · obtain ⟨v, fx, rfl, r⟩ := each1 h
    rename_i o ds
    cases ei : blsD ds with
    | none => rw [ei] at e; cases e
    | some ns =>
      rw [ei] at e; cases e
      obtain ⟨a, us, rfl, k, ea, _⟩ := r.opn ex
      rw [bls_some ei] at ea
      have := ea.blD
      subst this
      exact ⟨rfl, fun q => ⟨a, ns, rfl, k, q _ rfl⟩⟩
  · cases e
end
end Rf
namespace Rf
open PySem L2
/-! ### isinstance -/
def tyN : D → Option String
  | .abs => none
  | .pin _ _ => none
  | .non => some "NoneType"
  | .bl _ => some "bool"
  | .int _ => some "int"
  | .str _ => some "str"
  | .obj _ .lst _ => some "list"
  | .obj _ .tup _ => some "tuple"
  | .obj _ (.dic _) _ => some "dict"
  | .obj _ (.dit _) _ => some "dict"
  | .obj _ (.ins _ _) _ => none
def oIsi (T : String) (d : D) : Option D := (tyN d).bind fun t => if (t == T || (t == "bool" && T == "int")) = true then some (.bl true) else some (.bl false)
def tyAll : List String := ["NoneType", "bool", "int", "str", "list", "tuple", "dict"]
theorem kit_all : (tyAll.all fun t => tyAll.all fun T => T == "NoneType" || (match kitB t T with | some b => b == (t == T || (t == "bool" && T == "int")) | none => false)) = true := by decide +kernel
theorem kit_at {t T : String} (h1 : tyAll.contains t = true) (h2 : tyAll.contains T = true) (h3 : (T == "NoneType") = false) : kitB t T = some (t == T || (t == "bool" && T == "int")) := by
  have q := List.all_eq_true.mp (List.all_eq_true.mp kit_all t (by simpa using h1)) T (by simpa using h2)
  rw [h3] at q
  simp only [Bool.false_or] at q
  split at q
  · rename_i b e
    rw [e]
    congr 1
    simpa using q
  · cases q
section
variable {K : PySem.W.Frag} {cl : Nat → Addr}
theorem sql_ty {H : Hp} {a : Addr} {vs : List V} (h : SqL K H a vs) : TyX K H (.ref a) (.type "list") := by
  rcases h with (h | ⟨o, h⟩) | ⟨o, its, n, h1, h2, _⟩
  · exact .base (.lst h)
  · exact .base (.frz h)
  · exact .kList h1 h2
theorem sqt_ty {H : Hp} {a : Addr} {vs : List V} (h : SqT K H a vs) : TyX K H (.ref a) (.type "tuple") := by
  rcases h with (h | ⟨o, h⟩) | ⟨o, its, n, h1, h2, _⟩
  · exact .base (.tup h)
  · exact .fTuple h
  · exact .kTuple h1 h2
theorem tyx_of {F H : Hp} (ex : Ex F H) {d : D} {v : V} {fx : List Addr} {t : String} (r : Rep K cl F H d v fx) (e : tyN d = some t) (hd : ∀ k ds, d ≠ .obj .con k ds ∨ k = .lst ∨ k = .tup) : tyAll.contains t = true ∧ TyX K H v (.type t) := by
  cases d with
  | abs => cases e
  | pin a u => cases e
  | non => obtain ⟨rfl, _⟩ := r; cases e; exact ⟨by decide, .base .non⟩
  | bl b => obtain ⟨rfl, _⟩ := r; cases e; exact ⟨by decide, .base (.bl _)⟩
  | int b => obtain ⟨rfl, _⟩ := r; cases e; exact ⟨by decide, .base (.int _)⟩
  | str b => obtain ⟨rfl, _⟩ := r; cases e; exact ⟨by decide, .base (.str _)⟩
  | obj o k ds =>
    obtain ⟨a, vs, rfl, kr, _, ku⟩ := r.opn ex
    cases k with
    | lst => cases e; exact ⟨by decide, sql_ty kr⟩
    | tup => cases e; exact ⟨by decide, sqt_ty kr⟩
    | dic ks =>
      cases e
      have ho : o ≠ .con := fun h => by subst h; rcases hd (.dic ks) ds with h | h | h <;> first | exact h rfl | cases h
      obtain ⟨u, hu, rfl, _⟩ := ku ho
      exact ⟨by decide, .base (.dK hu)⟩
    | dit ks =>
      cases e
      have ho : o ≠ .con := fun h => by subst h; rcases hd (.dit ks) ds with h | h | h <;> first | exact h rfl | cases h
      obtain ⟨u, hu, rfl, _⟩ := ku ho
      exact ⟨by decide, .base (.dT hu)⟩
    | ins c ns => cases e
end
def conD : D → Bool
  | .obj .con (.dic _) _ => true
  | .obj .con (.dit _) _ => true
  | _ => false
def bIsi (T : String) (d : D) : Option D := if conD d then none else oIsi T d
section
variable {X : Cx} {cl : Nat → Addr} {e a b c : Expr} {pos : Pos} {s t f g : SF} {es : List Expr} {fs : List SF}
/-- isinstance(e, T), T a built-in type -/
theorem s_isi {x y : Str} {p p2 : Pos} {T : String} (hg : Gl X x) (hm : X.mg x = none) (hv : bootBuiltins x = some (.builtin "isinstance")) (hgy : Gl X y) (hmy : X.mg y = none) (hvy : bootBuiltins y = some (.type T)) (hT : tyAll.contains T = true) (hT2 : (T == "NoneType") = false) (ha : PEp X cl a f)
    (hn : x ≠ "__name__") (hdb : (x == ("__debug__" : Str)) = false) (hny : y ≠ "__name__") (hdy : (y == ("__debug__" : Str)) = false)
    (hs : starEach [a, .Name y p2] X.env = (false, eval a X.env) :: starEach [.Name y p2] X.env) (hs2 : starEach [.Name y p2] X.env = (false, eval (.Name y p2) X.env) :: starEach [] X.env) (hpl : (backTo pos (starEach [.Name y p2] X.env)).any (·.1) = false) :
    PEs X cl (.Call (.Name x p) [a, .Name y p2] [] pos) (sUn (bIsi T) f) :=
  pe_imp (pe_callB call_isi hg hm hv (pa_cons ha (pa_cons (pe_bltn hgy hmy hvy (v := .ty T) rfl hny hdy) pa_nil hs2) hs) hn hdb hs hpl) fun σ H Q ⟨φ, fd, fv, F, m, lv, r, d, e, hd, q⟩ => by
    unfold sUn at e
    cases ef : f m with
    | none => rw [ef] at e; cases e
    | some x =>
      rw [ef] at e
      have e : bIsi T x = some d := e
      unfold bIsi at e
      split at e
      · cases e
      rename_i hc
      unfold oIsi at e
      cases et : tyN x with
      | none => rw [et] at e; cases e
      | some t =>
        rw [et] at e
        refine ⟨φ, fd, fv, F, m, lv, r, x, ef, fun v fx rx => ?_⟩
        obtain ⟨h1, h2⟩ := tyx_of r.wf.ex rx et fun k ds => by
          by_cases h : x = .obj .con k ds
          · subst h
            cases k with
            | lst => exact .inr (.inl rfl)
            | tup => exact .inr (.inr rfl)
            | dic ks => exact absurd rfl hc
            | dit ks => exact absurd rfl hc
            | ins c ns => cases et
          · exact .inl h
        refine ⟨v, .ty T, .type t, .type T, _, rfl, .ty T, h2, kit_ty (kit_at h1 hT hT2), q _ ?_⟩
        simp only [Option.bind_some] at e
        split at e
        · rename_i h; cases e; rw [h]; rfl
        · rename_i h; cases e
          have h := Bool.eq_false_iff.mpr h
          rw [h]; rfl
end
/-! ### deep equality -/
mutual
def pd : D → Option PyData
  | .abs => none
  | .pin _ _ => none
  | .non => some .none
  | .bl b => some (.bool b)
  | .int i => some (.int i)
  | .str s => some (.str s)
  | .obj _ .lst ds => (pds ds).map .list
  | .obj _ .tup ds => (pds ds).map .tuple
  | .obj _ _ _ => none
def pds : List D → Option (List PyData)
  | [] => some []
  | d :: ds => (pd d).bind fun x => (pds ds).map (x :: ·)
end
def pdS (d : D) : Option PyData := (pd d).bind fun x => if SeqAt.shaped x = true then some x else none
def oEqD (x y : D) : Option D := (pdS x).bind fun a => (pdS y).map fun b => .bl (PyData.eqv a b)
def oNeD (x y : D) : Option D := (pdS x).bind fun a => (pdS y).map fun b => .bl (!PyData.eqv a b)
/-- x in xs, any depth -/
def oInD (neg : Bool) (x y : D) : Option D := (pdS x).bind fun a => (pdS y).bind fun b => match b with
  | .list ds => some (.bl (if neg then !ds.any fun z => PyData.eqv z a else ds.any fun z => PyData.eqv z a))
  | _ => none
def memE (x : D) : List D → Option Bool
  | [] => some false
  | d :: ds => (eqE d x).bind fun b => (memE x ds).map fun c => b || c
where eqE : D → D → Option Bool
  | .non, .non => some true
  | .bl a, .bl b => some (a == b)
  | .int a, .int b => some (a == b)
  | .str a, .str b => some (a == b)
  | .bl a, .int b => some ((if a then 1 else 0) == b)
  | .int a, .bl b => some (a == (if b then 1 else 0))
  | x, y => if isSc x && isSc y then some false else none
/-- x in xs, flat items -/
def oInF (neg : Bool) (x : D) : D → Option D
  | .obj _ .lst ds => if isSc x then (memE x ds).map fun b => .bl (if neg then !b else b) else none
  | .obj _ .tup ds => if isSc x then (memE x ds).map fun b => .bl (if neg then !b else b) else none
  | _ => none
section
variable {K : PySem.W.Frag} {cl : Nat → Addr}
mutual
theorem dp_of {F H : Hp} (ex : Ex F H) : ∀ (d : D) {v : V} {fx : List Addr} {x : PyData}, Rep K cl F H d v fx → pd d = some x → Dp K H v x
  | .abs, _, _, _, _, e => by cases e
  | .pin _ _, _, _, _, _, e => by cases e
  | .non, _, _, _, r, e => by obtain ⟨rfl, _⟩ := r; cases e; exact .non
  | .bl _, _, _, _, r, e => by obtain ⟨rfl, _⟩ := r; cases e; exact .bl _
  | .int _, _, _, _, r, e => by obtain ⟨rfl, _⟩ := r; cases e; exact .int _
  | .str _, _, _, _, r, e => by obtain ⟨rfl, _⟩ := r; cases e; exact .str _
  | .obj o .lst ds, _, _, _, r, e => by
    obtain ⟨a, vs, rfl, k, _⟩ := r.opn ex
    obtain ⟨a', vs', fps, hv, n, rs⟩ := r
    cases hv
    cases ep : pds ds with
    | none => simp [pd, ep] at e
    | some xs =>
      simp [pd, ep] at e
      subst e
      exact .lst (n.rd ex) (dps_of ex ds rs ep)
  | .obj o .tup ds, _, _, _, r, e => by
    obtain ⟨a, vs, rfl, k, _⟩ := r.opn ex
    obtain ⟨a', vs', fps, hv, n, rs⟩ := r
    cases hv
    cases ep : pds ds with
    | none => simp [pd, ep] at e
    | some xs =>
      simp [pd, ep] at e
      subst e
      exact .tup (n.rd ex) (dps_of ex ds rs ep)
  | .obj o (.dic _) ds, _, _, _, r, e => by cases e
  | .obj o (.dit _) ds, _, _, _, r, e => by cases e
  | .obj o (.ins _ _) ds, _, _, _, r, e => by cases e
theorem dps_of {F H : Hp} (ex : Ex F H) : ∀ (ds : List D) {vs : List V} {fx : List Addr} {xs : List PyData}, Reps K cl F H ds vs fx → pds ds = some xs → DpAll K H vs xs
  | [], _, _, _, r, e => by obtain ⟨rfl, _⟩ := r; cases e; exact .nil
  | d :: ds, _, _, _, r, e => by
    obtain ⟨v, vr, f1, f2, rfl, _, r1, r2⟩ := r
    cases e1 : pd d with
    | none => simp [pds, e1] at e
    | some x =>
      cases e2 : pds ds with
      | none => simp [pds, e1, e2] at e
      | some xs =>
        simp [pds, e1, e2] at e
        subst e
        exact .cons (dp_of ex d r1 e1) (dps_of ex ds r2 e2)
end
theorem pdS_some {d : D} {x : PyData} (h : pdS d = some x) : pd d = some x ∧ SeqAt.shaped x = true := by
  unfold pdS at h
  cases e : pd d with
  | none => rw [e] at h; cases h
  | some y =>
    rw [e] at h
    simp only [Option.bind_some] at h
    split at h
    · rename_i hs; cases h; exact ⟨rfl, hs⟩
    · cases h
theorem q_eqD : OpQ K cl (rEqD K) oEqD := by
  intro F H x y z vx vy fx fy Q ex e rx ry
  unfold oEqD at e
  cases e1 : pdS x with
  | none => rw [e1] at e; cases e
  | some a =>
    cases e2 : pdS y with
    | none => rw [e1, e2] at e; cases e
    | some b =>
      rw [e1, e2] at e; cases e
      obtain ⟨h1, h2⟩ := pdS_some e1
      obtain ⟨h3, h4⟩ := pdS_some e2
      exact ⟨rfl, fun q => ⟨a, b, dp_of ex x rx h1, dp_of ex y ry h3, h2, h4, q _ rfl⟩⟩
theorem q_neD : OpQ K cl (rNeD K) oNeD := by
  intro F H x y z vx vy fx fy Q ex e rx ry
  unfold oNeD at e
  cases e1 : pdS x with
  | none => rw [e1] at e; cases e
  | some a =>
    cases e2 : pdS y with
    | none => rw [e1, e2] at e; cases e
    | some b =>
      rw [e1, e2] at e; cases e
      obtain ⟨h1, h2⟩ := pdS_some e1
      obtain ⟨h3, h4⟩ := pdS_some e2
      exact ⟨rfl, fun q => ⟨a, b, dp_of ex x rx h1, dp_of ex y ry h3, h2, h4, q _ rfl⟩⟩
theorem q_inD : OpQ K cl (rInD K) (oInD false) := by
  intro F H x y z vx vy fx fy Q ex e rx ry
  unfold oInD at e
  cases e1 : pdS x with
  | none => rw [e1] at e; cases e
  | some a =>
    cases e2 : pdS y with
    | none => rw [e1, e2] at e; cases e
    | some b =>
      rw [e1, e2] at e
      obtain ⟨h1, h2⟩ := pdS_some e1
      obtain ⟨h3, h4⟩ := pdS_some e2
      simp only [Option.bind_some] at e
      split at e
      · cases e
        exact ⟨rfl, fun q => ⟨a, _, dp_of ex x rx h1, dp_of ex y ry h3, h2, h4, q _ rfl⟩⟩
      · cases e
theorem q_niD : OpQ K cl (rNotInD K) (oInD true) := by
  intro F H x y z vx vy fx fy Q ex e rx ry
  unfold oInD at e
  cases e1 : pdS x with
  | none => rw [e1] at e; cases e
  | some a =>
    cases e2 : pdS y with
    | none => rw [e1, e2] at e; cases e
    | some b =>
      rw [e1, e2] at e
      obtain ⟨h1, h2⟩ := pdS_some e1
      obtain ⟨h3, h4⟩ := pdS_some e2
      simp only [Option.bind_some] at e
      split at e
      · cases e
        exact ⟨rfl, fun q => ⟨a, _, dp_of ex x rx h1, dp_of ex y ry h3, h2, h4, q _ rfl⟩⟩
      · cases e
theorem eqE_V {F H : Hp} {d x : D} {b : Bool} {v u : V} {f1 f2 : List Addr} (hx : isSc x = true) (e : memE.eqE d x = some b) (rd : Rep K cl F H d v f1) (rx : Rep K cl F H x u f2) : flatV v = true ∧ flatV u = true ∧ eqV v u = b := by
  unfold memE.eqE at e
  split at e
  · obtain ⟨rfl, _⟩ := rd; obtain ⟨rfl, _⟩ := rx; cases e; exact ⟨rfl, rfl, rfl⟩
  · obtain ⟨rfl, _⟩ := rd; obtain ⟨rfl, _⟩ := rx; cases e; exact ⟨rfl, rfl, rfl⟩
  · obtain ⟨rfl, _⟩ := rd; obtain ⟨rfl, _⟩ := rx; cases e; exact ⟨rfl, rfl, rfl⟩
  · obtain ⟨rfl, _⟩ := rd; obtain ⟨rfl, _⟩ := rx; cases e; exact ⟨rfl, rfl, rfl⟩
  · obtain ⟨rfl, _⟩ := rd; obtain ⟨rfl, _⟩ := rx; cases e; exact ⟨rfl, rfl, rfl⟩
  · obtain ⟨rfl, _⟩ := rd; obtain ⟨rfl, _⟩ := rx; cases e; exact ⟨rfl, rfl, rfl⟩
  · rename_i n1 n2 n3 n4 n5 n6
    split at e
    · rename_i hb
      cases e
      cases d <;> cases x <;> first | (exact absurd rfl (n1 rfl)) | (simp [isSc] at hb; done) | (obtain ⟨rfl, _⟩ := rd; obtain ⟨rfl, _⟩ := rx; first | exact ⟨rfl, rfl, rfl⟩ | exact absurd rfl (n2 _ _ rfl) | exact absurd rfl (n3 _ _ rfl) | exact absurd rfl (n4 _ _ rfl) | exact absurd rfl (n5 _ _ rfl) | exact absurd rfl (n6 _ _ rfl))
    · cases e
theorem memE_V {F H : Hp} {x : D} {u : V} {f2 : List Addr} (hx : isSc x = true) (rx : Rep K cl F H x u f2) : ∀ {ds : List D} {vs : List V} {b : Bool}, memE x ds = some b → Each K cl F H ds vs → vs.all flatV = true ∧ inV u vs = b
  | [], [], _, e, _ => by cases e; exact ⟨rfl, rfl⟩
  | d :: ds, v :: vs, b, e, h => by
    obtain ⟨⟨f1, r1⟩, h2⟩ := h
    cases e1 : memE.eqE d x with
    | none => simp [memE, e1] at e
    | some b1 =>
      cases e2 : memE x ds with
      | none => simp [memE, e1, e2] at e
      | some b2 =>
        simp [memE, e1, e2] at e
        obtain ⟨q1, q2, q3⟩ := eqE_V hx e1 r1 rx
        obtain ⟨q4, q5⟩ := memE_V hx rx e2 h2
        refine ⟨by simp [q1, q4], ?_⟩
        unfold inV at q5 ⊢
        rw [List.any_cons, q3, q5, e]
  | [], _ :: _, _, _, h => h.elim
  | _ :: _, [], _, _, h => h.elim
theorem q_inF (neg : Bool) : OpQ K cl (rIn K neg) (oInF neg) := by
  intro F H x y z vx vy fx fy Q ex e rx ry
  unfold oInF at e
  split at e
  · rename_i o ds
    split at e
    · rename_i hx
      cases em : memE x ds with
      | none => rw [em] at e; cases e
      | some b =>
        rw [em] at e; cases e
        obtain ⟨a, us, rfl, k, ea, _⟩ := ry.opn ex
        obtain ⟨q1, q2⟩ := memE_V hx rx em ea
        have hf : flatV vx = true := by cases x <;> first | (cases hx; done) | (obtain ⟨rfl, _⟩ := rx; rfl)
        exact ⟨rfl, fun q => ⟨a, us, rfl, .inl k, hf, q1, by rw [q2]; exact q _ rfl⟩⟩
    · cases e
  · rename_i o ds
    split at e
    · rename_i hx
      cases em : memE x ds with
      | none => rw [em] at e; cases e
      | some b =>
        rw [em] at e; cases e
        obtain ⟨a, us, rfl, k, ea, _⟩ := ry.opn ex
        obtain ⟨q1, q2⟩ := memE_V hx rx em ea
        have hf : flatV vx = true := by cases x <;> first | (cases hx; done) | (obtain ⟨rfl, _⟩ := rx; rfl)
        exact ⟨rfl, fun q => ⟨a, us, rfl, .inr k, hf, q1, by rw [q2]; exact q _ rfl⟩⟩
    · cases e
  · cases e
end
/-! ### new containers of things that are looked at -/
section
variable (K : PySem.W.Frag) (cl : Nat → Addr)
def CaW (r : List V → Hp → VK → Prop) (op : List D → Option D) : Prop := ∀ {ι : Type} (rd : ι → D) (rv : ι → V) (F H : Hp) (ds : List D) (vs : List V) (z : D) (Q : VK), op ds = some z → WF K cl F H rd rv → Each K cl F H ds vs →
  (∀ F' H' v, WF K cl F' H' (psh z rd) (psh v rv) → Q v H') → r vs H Q
def OpW (r : R2) (op : D → D → Option D) : Prop := ∀ {ι : Type} (rd : ι → D) (rv : ι → V) (F H : Hp) (x y z : D) (vx vy : V) (fx fy : List Addr) (Q : VK), op x y = some z → WF K cl F H rd rv → Rep K cl F H x vx fx → Rep K cl F H y vy fy →
  (∀ F' H' v, WF K cl F' H' (psh z rd) (psh v rv) → Q v H') → r vx vy H Q
end
def dP (op : List D → Option D) (fs : List SF) : M → R D := fun m => ofO ((pargs fs m).bind op) m
def dP2 (op : D → D → Option D) (f g : SF) : M → R D := fun m => ofO (sBin op f g m) m
section
variable {X : Cx} {cl : Nat → Addr} {xc : XC} {W : WX} {e a b c : Expr} {pos : Pos} {s t f g : SF} {es : List Expr} {fs : List SF}
theorem caw_of {r : List V → Hp → VK → Prop} {op : List D → Option D} (hs : CaW X.K cl r op) {σ : St} {H : Hp} {Q : VK} (h : tE X.K cl xc W (dP op fs) σ H Q) : tCB r (tKA X.K cl fs) σ H Q := by
  obtain ⟨φ, fd, fv, F, m, lv, rl, q⟩ := h
  unfold dP at q
  cases e1 : pargs fs m with
  | none => simp [e1, ofO] at q
  | some ds =>
    cases e2 : op ds with
    | none => simp [e1, e2, ofO] at q
    | some d =>
      simp only [e1, e2, ofO, Option.bind_some] at q
      exact ⟨φ, fd, fv, F, m, lv, rl, ds, e1, fun vs ev => hs _ _ F H ds vs d Q e2 rl.wf ev fun F' H' v w => q F' H' v (rl.push w)⟩
theorem d_bltW {x : Str} {p : Pos} {id : String} {r : List V → Hp → VK → Prop} {op : List D → Option D} (hc : CallR X (.builtin id) r) (hs : CaW X.K cl r op) (hg : Gl X x) (hm : X.mg x = none) (hv : bootBuiltins x = some (.builtin id)) (ha : PAp X cl (e :: es) fs) (hn : x ≠ "__name__") (hdb : (x == ("__debug__" : Str)) = false)
    (he : starEach (e :: es) X.env = (false, eval e X.env) :: starEach es X.env) (hpl : (backTo pos (starEach es X.env)).any (·.1) = false) : PEd X cl xc W (.Call (.Name x p) (e :: es) [] pos) (dP op fs) :=
  pe_imp (pe_callB hc hg hm hv ha hn hdb he hpl) fun σ H Q q => caw_of hs q
theorem d_bltTW {x : Str} {p : Pos} {T : String} {r : List V → Hp → VK → Prop} {op : List D → Option D} (hc : CallR X (.type T) r) (hs : CaW X.K cl r op) (hg : Gl X x) (hm : X.mg x = none) (hv : bootBuiltins x = some (.type T)) (ha : PAp X cl (e :: es) fs) (hn : x ≠ "__name__") (hdb : (x == ("__debug__" : Str)) = false)
    (he : starEach (e :: es) X.env = (false, eval e X.env) :: starEach es X.env) (hpl : (backTo pos (starEach es X.env)).any (·.1) = false) : PEd X cl xc W (.Call (.Name x p) (e :: es) [] pos) (dP op fs) :=
  pe_imp (pe_callTy hc hg hm hv ha hn hdb he hpl) fun σ H Q q => caw_of hs q
theorem d_binW {op : Operator} {r : R2} {o : D → D → Option D} (ho : OpR X (binaryOp op) r) (hs : OpW X.K cl r o) (ha : PEp X cl a f) (hb : PEp X cl b g) : PEd X cl xc W (.BinOp a op b pos) (dP2 o f g) :=
  pe_imp (pe_op ho ha hb) fun σ H Q ⟨φ, fd, fv, F, m, lv, rl, q⟩ => by
    unfold dP2 at q
    cases e : sBin o f g m with
    | none => simp [e, ofO] at q
    | some d =>
      simp only [e, ofO] at q
      obtain ⟨x, y, ex, ey, ez⟩ := sBin_some e
      exact ⟨φ, fd, fv, F, m, lv, rl, x, ex, fun vx fx rx => ⟨φ, fd, fv, F, m, lv, rl, y, ey, fun vy fy ry => hs _ _ F H x y d vx vy fx fy Q ez rl.wf rx ry fun F' H' v w => q F' H' v (rl.push w)⟩⟩
end
def wList : List D → Option D
  | [.obj _ .lst ds] => if ds.all isSh then some (.obj .own .lst ds) else none
  | [.obj _ .tup ds] => if ds.all isSh then some (.obj .own .lst ds) else none
  | _ => none
def wTuple : List D → Option D
  | [.obj _ .lst ds] => if ds.all isSh then some (.obj .own .tup ds) else none
  | _ => none
def wCat : D → D → Option D
  | .obj o .lst xs, .obj o' .lst ys => if o ≠ .con ∧ o' ≠ .con ∧ xs.all isSh = true ∧ ys.all isSh = true ∧ xs.length + ys.length ≤ sizeLine then some (.obj .own .lst (xs ++ ys)) else none
  | _, _ => none
def wRep : D → D → Option D
  | .obj o .lst xs, .int k => if o ≠ .con ∧ xs.all isSh = true ∧ k.natAbs < 9223372036854775808 ∧ xs.length * k.toNat ≤ sizeLine then some (.obj .own .lst (List.replicate k.toNat xs).flatten) else none
  | _, _ => none
section
variable {K : PySem.W.Frag} {cl : Nat → Addr}
theorem Each.reps {F H : Hp} : ∀ {ds : List D} {vs : List V}, Each K cl F H ds vs → ds.all isSh = true → Reps K cl F H ds vs []
  | [], [], _, _ => ⟨rfl, rfl⟩
  | d :: ds, v :: vs, h, hs => by
    obtain ⟨⟨fx, r⟩, h2⟩ := h
    rw [List.all_cons, Bool.and_eq_true] at hs
    have := r.sh hs.1
    subst this
    exact ⟨v, vs, [], [], rfl, rfl, r, Each.reps h2 hs.2⟩
  | [], _ :: _, h, _ => h.elim
  | _ :: _, [], h, _ => h.elim
theorem w_list : CaW K cl (fun xs H Q => ∃ p ys, xs = [V.ref p] ∧ (SqL K H p ys ∨ SqT K H p ys) ∧ ∀ l, H l = none → Q (.ref l) (upd H l (.lst ys))) wList := by
  intro ι rd rv F H ds vs z Q e w h k
  unfold wList at e
  split at e
  · obtain ⟨v, fx, rfl, r⟩ := each1 h
    split at e
    · rename_i hs
      cases e
      obtain ⟨a, us, rfl, kr, ea, _⟩ := r.opn w.ex
      exact ⟨a, us, rfl, .inl kr, fun l hl => k _ _ _ (w.newSh (ea.reps hs) hl rfl)⟩
    · cases e
  · obtain ⟨v, fx, rfl, r⟩ := each1 h
    split at e
    · rename_i hs
      cases e
      obtain ⟨a, us, rfl, kr, ea, _⟩ := r.opn w.ex
      exact ⟨a, us, rfl, .inr kr, fun l hl => k _ _ _ (w.newSh (ea.reps hs) hl rfl)⟩
    · cases e
  · cases e
theorem w_tuple : CaW K cl (fun xs H Q => ∃ p ys, xs = [V.ref p] ∧ ((SqL K H p ys ∧ ∀ l, H l = none → Q (.ref l) (upd H l (.tup ys))) ∨ (SqT K H p ys ∧ Q (.ref p) H))) wTuple := by
  intro ι rd rv F H ds vs z Q e w h k
  unfold wTuple at e
  split at e
  · obtain ⟨v, fx, rfl, r⟩ := each1 h
    split at e
    · rename_i hs
      cases e
      obtain ⟨a, us, rfl, kr, ea, _⟩ := r.opn w.ex
      exact ⟨a, us, rfl, .inl ⟨kr, fun l hl => k _ _ _ (w.newSh (ea.reps hs) hl rfl)⟩⟩
    · cases e
  · cases e
theorem w_cat : OpW K cl rCat wCat := by
  intro ι rd rv F H x y z vx vy fx fy Q e w rx ry k
  unfold wCat at e
  split at e
  · split at e
    · rename_i hh
      obtain ⟨h1, h2, h3, h4, h5⟩ := hh
      cases e
      obtain ⟨a, us, rfl, kr, ea, ka⟩ := rx.opn w.ex
      obtain ⟨b, ws, rfl, kr2, eb, kb⟩ := ry.opn w.ex
      obtain ⟨u, hu, rfl⟩ := ka h1
      obtain ⟨u2, hu2, rfl⟩ := kb h2
      exact ⟨a, b, us, ws, rfl, rfl, hu, hu2, by rw [ea.len, eb.len]; exact h5, fun p hp => k _ _ _ (w.newSh ((ea.reps h3).app0 (eb.reps h4)) hp rfl)⟩
    · cases e
  · cases e
theorem w_rep : OpW K cl rRep wRep := by
  intro ι rd rv F H x y z vx vy fx fy Q e w rx ry k
  unfold wRep at e
  split at e
  · split at e
    · rename_i hh
      obtain ⟨h1, h2, h3, h5⟩ := hh
      cases e
      obtain ⟨a, us, rfl, kr, ea, ka⟩ := rx.opn w.ex
      obtain ⟨rfl, _⟩ := ry
      obtain ⟨u, hu, rfl⟩ := ka h1
      exact ⟨a, _, us, rfl, rfl, hu, by omega, by omega, by rw [ea.len]; exact h5, fun p hp => k _ _ _ (w.newSh ((ea.reps h2).flat _) hp rfl)⟩
    · cases e
  · cases e
end
end Rf
namespace Rf
open PySem L2
/-- len(range(a, b, c)) -/
def rLenR3 : List V → Hp → VK → Prop := fun vs H Q => ∃ i j k : Int, vs = [.int i, .int j, .int k] ∧ k ≠ 0 ∧ k.natAbs < 1073741824 ∧ 0 ≤ Builtin.Range.rangeSize i j k ∧ Builtin.Range.rangeSize i j k < 2 ^ 63 ∧ Q (.int (Builtin.Range.rangeSize i j k)) H
section
variable {X : Cx} {x y : Str} {p p2 pos pos2 : Pos} {a b c : Expr} {t : TA}
theorem pe_lenR3 (hg : Gl X x) (hm : X.mg x = none) (hv : bootBuiltins x = some (.builtin "len")) (hgy : Gl X y) (hmy : X.mg y = none) (hvy : bootBuiltins y = some (.type "range")) (ha : PA X [a, b, c] t)
    (hn : x ≠ "__name__") (hdb : (x == ("__debug__" : Str)) = false) (hny : y ≠ "__name__") (hdy : (y == ("__debug__" : Str)) = false)
    (hs : starEach [a, b, c] X.env = (false, eval a X.env) :: starEach [b, c] X.env) (hpl : (backTo pos2 (starEach [b, c] X.env)).any (·.1) = false)
    (hs2 : starEach [.Call (.Name y p2) [a, b, c] [] pos2] X.env = (false, eval (.Call (.Name y p2) [a, b, c] [] pos2) X.env) :: starEach [] X.env) (hpl2 : (backTo pos (starEach [] X.env)).any (·.1) = false) :
    PE X (.Call (.Name x p) [.Call (.Name y p2) [a, b, c] [] pos2] [] pos) (tCB rLenR3 t) := by
  refine ⟨fun pins s σ H Q I h => ?_⟩
  refine wpAny_Call_Name_kw (ld_blt I hg hm hv ?_ hn hdb)
  refine PyProof.Rows.callWith_builtin1 ?_ hs2 hpl2
  rw [hs2]
  show wpAny _ _ (spliced ((false, eval (.Call (.Name y p2) [a, b, c] [] pos2) X.env) :: backTo pos (starEach [] X.env))) _ _ s
  refine Calls.spliced_cons ?_
  refine wpAny_Call_Name_kw (ld_blt I hgy hmy hvy ?_ hny hdy)
  refine PyProof.Rows.callWith_type1 (thn (ha.run pos2 pins s σ H _ I h) fun us s1 ⟨vs, H1, I1, r1, q1⟩ => ?_) hs hpl
  obtain ⟨i, j, k, rfl, c0, c1, c2, c3, q⟩ := q1
  cases r1 with
  | cons r rr =>
  cases rr with
  | cons r' rr =>
  cases rr with
  | cons r'' rr =>
  cases rr
  obtain ⟨t1, rfl⟩ := r
  obtain ⟨t2, rfl⟩ := r'
  obtain ⟨t3, rfl⟩ := r''
  refine call_range_3 c0 ?_ (.inl (PyProof.noPylong_small c1))
  refine Calls.spliced_nil ?_
  obtain ⟨n, hn'⟩ := Int.eq_ofNat_of_zero_le c2
  have I2 : Inv X pins σ H1 { s1 with heap := s1.heap.push { cls := .type "range", data := .fields #[.int i t1, .int j t2, .int k t3] } } := I1.kept (t' := s1.toks) fun b o e => Heap.get?_push_of_some _ e
  refine call_len_range (n := n) (IsRange.new ..) hn' (by rw [← hn']; exact c3) ?_
  exact ⟨.int _, H1, I2.tok _, ⟨_, rfl⟩, by rw [hn'] at q; exact q⟩
end
def bLenR3 : List D → Option D
  | [.int i, .int j, .int k] => if k ≠ 0 ∧ k.natAbs < 1073741824 ∧ 0 ≤ Builtin.Range.rangeSize i j k ∧ Builtin.Range.rangeSize i j k < 2 ^ 63 then some (.int (Builtin.Range.rangeSize i j k)) else none
  | _ => none
section
variable {X : Cx} {cl : Nat → Addr} {xc : XC} {W : WX} {x y : Str} {p p2 pos pos2 : Pos} {a b c : Expr} {ga : M → R (List D)}
theorem d_lenR3 (hg : Gl X x) (hm : X.mg x = none) (hv : bootBuiltins x = some (.builtin "len")) (hgy : Gl X y) (hmy : X.mg y = none) (hvy : bootBuiltins y = some (.type "range")) (ha : PAd X cl xc W [a, b, c] ga)
    (hn : x ≠ "__name__") (hdb : (x == ("__debug__" : Str)) = false) (hny : y ≠ "__name__") (hdy : (y == ("__debug__" : Str)) = false)
    (hs : starEach [a, b, c] X.env = (false, eval a X.env) :: starEach [b, c] X.env) (hpl : (backTo pos2 (starEach [b, c] X.env)).any (·.1) = false)
    (hs2 : starEach [.Call (.Name y p2) [a, b, c] [] pos2] X.env = (false, eval (.Call (.Name y p2) [a, b, c] [] pos2) X.env) :: starEach [] X.env) (hpl2 : (backTo pos (starEach [] X.env)).any (·.1) = false) :
    PEd X cl xc W (.Call (.Name x p) [.Call (.Name y p2) [a, b, c] [] pos2] [] pos) (dB bLenR3 ga) :=
  pe_imp (pe_lenR3 hg hm hv hgy hmy hvy ha hn hdb hny hdy hs hpl hs2 hpl2) fun σ H Q q => tA_bind q fun φ fd fv F H1 m lv vs ds hl r q => by
    unfold ofO at q
    cases eo : bLenR3 ds with
    | none => simp only [eo] at q
    | some z =>
      simp only [eo] at q
      unfold bLenR3 at eo
      split at eo
      · rename_i i j k
        split at eo
        · rename_i hk
          cases eo
          obtain ⟨fp, h1, _⟩ := r.wf.toTops.fp
          match vs, hl with
          | [v1, v2, v3], _ =>
            obtain ⟨e1, _⟩ := h1 (.inl 0)
            obtain ⟨e2, _⟩ := h1 (.inl 1)
            obtain ⟨e3, _⟩ := h1 (.inl 2)
            have e1 : v1 = _ := e1
            have e2 : v2 = _ := e2
            have e3 : v3 = _ := e3
            subst e1 e2 e3
            exact ⟨i, j, k, rfl, hk.1, hk.2.1, hk.2.2.1, hk.2.2.2, q F H1 _ (r.untops.push (r.untops.wf.dup0 (Scal.rep rfl)))⟩
        · cases eo
      · cases eo
end
end Rf
namespace Rf
open PySem L2
open PyProof.Rows (envOfC)
/-! the rules, with their side conditions left to the kernel -/
def visB (sc : Scope) (x : Str) : Bool := (match sc.names.lookup x with
  | some .local => true
  | some .cell => true
  | some .free => true
  | _ => false) && !(x == ("__debug__" : Str)) && !(x == ("__classdict__" : Str))
def locB (sc : Scope) (x : Str) : Bool := match sc.names.lookup x with
  | some .local => true
  | some .cell => true
  | _ => false
theorem vis_of {sc : Scope} {x : Str} (h : visB sc x = true) : Vis sc x ∧ (x == ("__debug__" : Str)) = false ∧ (x == ("__classdict__" : Str)) = false := by
  unfold visB at h
  simp only [Bool.and_eq_true, Bool.not_eq_true'] at h
  obtain ⟨⟨h1, h2⟩, h3⟩ := h
  refine ⟨?_, h2, h3⟩
  split at h1
  · exact .inl (by assumption)
  · exact .inr (.inl (by assumption))
  · exact .inr (.inr (by assumption))
  · cases h1
theorem loc_of {sc : Scope} {x : Str} (h : locB sc x = true) : Loc sc x := by
  unfold locB at h
  split at h
  · exact .inl (by assumption)
  · exact .inr (by assumption)
  · cases h
structure Bo (x : Str) (u : Value) : Prop where
  v : bootBuiltins x = some u
  n : x ≠ "__name__"
  d : (x == ("__debug__" : Str)) = false
theorem bo_len : Bo "len" (.builtin "len") := ⟨by kernel_rfl, by decide +kernel, by kernel_rfl⟩
theorem bo_abs : Bo "abs" (.builtin "abs") := ⟨by kernel_rfl, by decide +kernel, by kernel_rfl⟩
theorem bo_min : Bo "min" (.builtin "min") := ⟨by kernel_rfl, by decide +kernel, by kernel_rfl⟩
theorem bo_max : Bo "max" (.builtin "max") := ⟨by kernel_rfl, by decide +kernel, by kernel_rfl⟩
theorem bo_sum : Bo "sum" (.builtin "sum") := ⟨by kernel_rfl, by decide +kernel, by kernel_rfl⟩
theorem bo_all : Bo "all" (.builtin "all") := ⟨by kernel_rfl, by decide +kernel, by kernel_rfl⟩
theorem bo_any : Bo "any" (.builtin "any") := ⟨by kernel_rfl, by decide +kernel, by kernel_rfl⟩
theorem bo_ord : Bo "ord" (.builtin "ord") := ⟨by kernel_rfl, by decide +kernel, by kernel_rfl⟩
theorem bo_isi : Bo "isinstance" (.builtin "isinstance") := ⟨by kernel_rfl, by decide +kernel, by kernel_rfl⟩
theorem bo_sorted : Bo "sorted" (.builtin "sorted") := ⟨by kernel_rfl, by decide +kernel, by kernel_rfl⟩
theorem bo_int : Bo "int" (.type "int") := ⟨by kernel_rfl, by decide +kernel, by kernel_rfl⟩
theorem bo_str : Bo "str" (.type "str") := ⟨by kernel_rfl, by decide +kernel, by kernel_rfl⟩
theorem bo_list : Bo "list" (.type "list") := ⟨by kernel_rfl, by decide +kernel, by kernel_rfl⟩
theorem bo_tuple : Bo "tuple" (.type "tuple") := ⟨by kernel_rfl, by decide +kernel, by kernel_rfl⟩
theorem bo_bool : Bo "bool" (.type "bool") := ⟨by kernel_rfl, by decide +kernel, by kernel_rfl⟩
theorem bo_dict : Bo "dict" (.type "dict") := ⟨by kernel_rfl, by decide +kernel, by kernel_rfl⟩
theorem bo_range : Bo "range" (.type "range") := ⟨by kernel_rfl, by decide +kernel, by kernel_rfl⟩
section
variable {X : Cx} {cl : Nat → Addr} {xc : XC} {W : WX} {e a b c : Expr} {pos : Pos} {s t : SF} {es : List Expr} {fs : List SF} {f g : M → R D} {ga : M → R (List D)} {x y : Str}
/-! names -/
theorem l_v (i : Nat) (hN : X.N[i]? = some x := by kernel_rfl) (hv : visB X.env.scope x = true := by kernel_rfl) : PEl X cl (.Name x pos) i [] := l_var hN (vis_of hv).1 (vis_of hv).2.1 (vis_of hv).2.2
theorem d_v (i : Nat) (hN : X.N[i]? = some x := by kernel_rfl) (hv : visB X.env.scope x = true := by kernel_rfl) : PEd X cl xc W (.Name x pos) (dVar i) := d_var hN (vis_of hv).1 (vis_of hv).2.1 (vis_of hv).2.2
theorem d_m (i : Nat) (hN : X.N[i]? = some x := by kernel_rfl) (hv : visB X.env.scope x = true := by kernel_rfl) : PEd X cl xc W (.Name x pos) (dMv i) := d_mv hN (vis_of hv).1 (vis_of hv).2.1 (vis_of hv).2.2
theorem s_v (i : Nat) (hN : X.N[i]? = some x := by kernel_rfl) (hv : visB X.env.scope x = true := by kernel_rfl) : PEs X cl (.Name x pos) (sLd i []) := s_ld (l_v i hN hv)
theorem p_v (i : Nat) (hN : X.N[i]? = some x := by kernel_rfl) (hv : visB X.env.scope x = true := by kernel_rfl) : PEp X cl (.Name x pos) (pLd i []) := p_l (l_v i hN hv)
theorem l_x {i : Nat} {ps : List Stp} (ha : PEl X cl a i ps) (hb : PEs X cl b s) (hs : PlainIx b := by exact fun _ _ => by kernel_rfl) : PEl X cl (.Subscript a b pos) i (ps ++ [.ix s]) := l_ix ha hb hs
/-! comparisons, tests -/
theorem s_c1 {op : CmpOp} {o : D → D → Option D} (h : CmpR X op o) (ha : PEs X cl a s) (hb : PEs X cl b t) (hm : behindInMarks op b = false := by kernel_rfl) : PEs X cl (.Compare a [op] [b] pos) (sBin o s t) := s_c h ha hb hm
theorem t_c1 {op : CmpOp} {o : D → D → Option D} (h : CmpR X op o) (ha : PEs X cl a s) (hb : PEs X cl b t) (hm : behindInMarks op b = false := by kernel_rfl) : PTs' X cl (.Compare a [op] [b] pos) (sT (sBin o s t)) := t_c h ha hb hm
theorem s_c2 {op op' : CmpOp} {o o' : D → D → Option D} {u : SF} (h : CmpR X op o) (h' : CmpR X op' o') (ha : PEs X cl a s) (hb : PEs X cl b t) (hc : PEs X cl c u) (hm : lastMarks [op, op'] [b, c] = false := by kernel_rfl) : PEs X cl (.Compare a [op, op'] [b, c] pos) (sChn o o' s t u) := s_cc h h' ha hb hc hm
theorem t_c2 {op op' : CmpOp} {o o' : D → D → Option D} {u : SF} (h : CmpR X op o) (h' : CmpR X op' o') (ha : PEs X cl a s) (hb : PEs X cl b t) (hc : PEs X cl c u) (hm : lastMarks [op, op'] [b, c] = false := by kernel_rfl) : PTs' X cl (.Compare a [op, op'] [b, c] pos) (sT (sChn o o' s t u)) := t_cc h h' ha hb hc hm
structure CmpQ (X : Cx) (cl : Nat → Addr) (op : CmpOp) (o : D → D → Option D) : Prop where
  ex : ∃ r, OpR X (compareOp op) r ∧ OpQ X.K cl r o
theorem q_eq (hu : X.A.units + 64 < cLine) : CmpQ X cl .Eq oEqD := ⟨_, op_eqD hu, q_eqD⟩
theorem q_ne (hu : X.A.units + 64 < cLine) : CmpQ X cl .NotEq oNeD := ⟨_, op_neD hu, q_neD⟩
theorem q_inF' : CmpQ X cl .In (oInF false) := ⟨_, op_in_seq, q_inF false⟩
theorem q_niF' : CmpQ X cl .NotIn (oInF true) := ⟨_, op_notIn_seq, q_inF true⟩
theorem q_in (hu : X.A.units + 65 < cLine) : CmpQ X cl .In (oInD false) := ⟨_, op_inD hu, q_inD⟩
theorem q_ni (hu : X.A.units + 65 < cLine) : CmpQ X cl .NotIn (oInD true) := ⟨_, op_notInD hu, q_niD⟩
theorem room_u {k : Nat} (hr : Room k X.A) : X.A.units + 64 < cLine := by have := hr.un; omega
theorem room_u5 {k : Nat} (hr : Room k X.A) : X.A.units + 65 < cLine := by have := hr.un; omega
theorem s_q {op : CmpOp} {o : D → D → Option D} (h : CmpQ X cl op o) (ha : PEp X cl a s) (hb : PEp X cl b t) (hm : behindInMarks op b = false := by kernel_rfl) : PEs X cl (.Compare a [op] [b] pos) (sBin o s t) := by
  obtain ⟨r, h1, h2⟩ := h
  exact s_cmpP h1 h2 ha hb hm
theorem t_q {op : CmpOp} {o : D → D → Option D} (h : CmpQ X cl op o) (ha : PEp X cl a s) (hb : PEp X cl b t) (hm : behindInMarks op b = false := by kernel_rfl) : PTs' X cl (.Compare a [op] [b] pos) (sT (sBin o s t)) := by
  obtain ⟨r, h1, h2⟩ := h
  exact t_cmpP h1 h2 ha hb hm
theorem t_sv (h : PEs X cl e s) (he : ∀ whole, isTrue e X.env whole = (do let v ← whole; standAt e.pos; holding [v] (truthy v)) := by exact fun _ => by kernel_rfl) : PTs' X cl e (sT s) := t_s h he
theorem t_dv (h : PEd X cl xc W e f) (he : ∀ whole, isTrue e X.env whole = (do let v ← whole; standAt e.pos; holding [v] (truthy v)) := by exact fun _ => by kernel_rfl) : PTd X cl xc W e (dT f) := t_d h he
theorem t_w {t : M → R Bool} (h : PW X e (tT X.K cl xc W t)) : PTd X cl xc W e t := ⟨fun pins s σ H Q I q => h.run _ pins s σ H Q I q⟩
/-! argument lists -/
theorem pp_c (ha : PEp X cl e s) (hr : PAp X cl es fs) (hs : starEach (e :: es) X.env = (false, eval e X.env) :: starEach es X.env := by kernel_rfl) : PAp X cl (e :: es) (s :: fs) := pp_cons ha hr hs
theorem a_c (ha : PEd X cl xc W e f) (hb : PAd X cl xc W es ga) (hs : starEach (e :: es) X.env = (false, eval e X.env) :: starEach es X.env := by kernel_rfl) : PAd X cl xc W (e :: es) (dA f ga) := d_a ha hb hs
theorem av (ha : PEd X cl xc W e f) {as : List Ar} (hb : PAr X cl xc W es as) (hs : starEach (e :: es) X.env = (false, eval e X.env) :: starEach es X.env := by kernel_rfl) : PAr X cl xc W (e :: es) (.v f :: as) := ar_v ha hb hs
theorem al {i : Nat} {p : Pos} (hx : PEl X cl (.Name x p) i []) {as : List Ar} (hb : PAr X cl xc W es as) (hs : starEach (.Name x p :: es) X.env = (false, eval (.Name x p) X.env) :: starEach es X.env := by kernel_rfl) : PAr X cl xc W (.Name x p :: es) (.l i :: as) := ar_l hx hb hs
/-! built-in functions -/
structure CaB (X : Cx) (cl : Nat → Addr) (u : Value) (op : List D → Option D) : Prop where
  ex : ∃ r, CallR X u r ∧ CaP X.K cl r op
theorem cb_len : CaB X cl (.builtin "len") bLen := ⟨_, call_len, b_len⟩
theorem cb_lenD : CaB X cl (.builtin "len") bLenD := ⟨_, call_lenD, b_lenD⟩
theorem cb_abs : CaB X cl (.builtin "abs") bAbs := ⟨_, call_abs, b_abs⟩
theorem cb_min2 (hc : X.calm = true) : CaB X cl (.builtin "min") bMin2 := ⟨_, call_min2 hc, b_min2⟩
theorem cb_max2 (hc : X.calm = true) : CaB X cl (.builtin "max") bMax2 := ⟨_, call_max2 hc, b_max2⟩
theorem cb_min (hc : X.calm = true) : CaB X cl (.builtin "min") bMin := ⟨_, cr_min hc, b_min⟩
theorem cb_max (hc : X.calm = true) : CaB X cl (.builtin "max") bMax := ⟨_, cr_max hc, b_max⟩
theorem cb_sum (hc : X.calm = true) : CaB X cl (.builtin "sum") bSum := ⟨_, cr_sum hc, b_sum⟩
theorem cb_all (hc : X.calm = true) : CaB X cl (.builtin "all") bAll := ⟨_, cr_all hc, b_all⟩
theorem cb_any (hc : X.calm = true) : CaB X cl (.builtin "any") bAny := ⟨_, cr_any hc, b_any⟩
theorem cb_ord : CaB X cl (.builtin "ord") bOrd := ⟨_, call_ord, b_ord⟩
theorem cb_int : CaB X cl (.type "int") bInt := ⟨_, call_int1, b_int⟩
theorem cb_strI : CaB X cl (.type "str") bStrI := ⟨_, call_str_int, b_strI⟩
theorem s_f {id : String} {op : List D → Option D} {p : Pos} (hc : CaB X cl (.builtin id) op) (bo : Bo x (.builtin id)) (hm : X.mg x = none) (ha : PAp X cl (e :: es) fs) (hg : X.env.kindOf x = some .globalImplicit := by kernel_rfl)
    (he : starEach (e :: es) X.env = (false, eval e X.env) :: starEach es X.env := by kernel_rfl) (hpl : (backTo pos (starEach es X.env)).any (·.1) = false := by kernel_rfl) : PEs X cl (.Call (.Name x p) (e :: es) [] pos) (pOp op fs) := by
  obtain ⟨r, h1, h2⟩ := hc
  exact s_blt h1 h2 hg hm bo.v ha bo.n bo.d he hpl
theorem s_fT {T : String} {op : List D → Option D} {p : Pos} (hc : CaB X cl (.type T) op) (bo : Bo x (.type T)) (hm : X.mg x = none) (ha : PAp X cl (e :: es) fs) (hg : X.env.kindOf x = some .globalImplicit := by kernel_rfl)
    (he : starEach (e :: es) X.env = (false, eval e X.env) :: starEach es X.env := by kernel_rfl) (hpl : (backTo pos (starEach es X.env)).any (·.1) = false := by kernel_rfl) : PEs X cl (.Call (.Name x p) (e :: es) [] pos) (pOp op fs) := by
  obtain ⟨r, h1, h2⟩ := hc
  exact s_bltT h1 h2 hg hm bo.v ha bo.n bo.d he hpl
/-- the same of things that are reckoned anywhere: the arguments are frozen -/
theorem CaP.cas {K : PySem.W.Frag} {cl : Nat → Addr} {r : List V → Hp → VK → Prop} {op : List D → Option D} (h : CaP K cl r op) : CaS K cl r op := fun rd rv F H xs z vs Q e hl w k => by
  obtain ⟨fp, h1, _⟩ := w.fp
  have ev : Each K cl F H xs vs := by
    have key : ∀ (xs : List D) (vs : List V), vs.length = xs.length → (∀ (i : Nat) (d : D) (v : V), xs[i]? = some d → vs[i]? = some v → ∃ fx, Rep K cl F H d v fx) → Each K cl F H xs vs := by
      intro xs
      induction xs with
      | nil => intro vs hl _; cases vs with
        | nil => trivial
        | cons v vs => cases hl
      | cons d ds ih => intro vs hl hh; cases vs with
        | nil => cases hl
        | cons v vs => exact ⟨hh 0 d v rfl rfl, ih vs (by simpa using hl) fun i d' v' e1 e2 => hh (i + 1) d' v' (by simpa using e1) (by simpa using e2)⟩
    refine key xs vs hl fun i d v e1 e2 => ⟨fp (.inl i), ?_⟩
    have := h1 (.inl i)
    simpa [pshs, e1, e2] using this
  obtain ⟨h3, h4⟩ := h F H xs vs z Q w.ex e ev
  refine h4 fun v hv => k F H v ?_
  exact w.dropTops.dup0 hv.rep
theorem d_f {id : String} {op : List D → Option D} {p : Pos} (hc : CaB X cl (.builtin id) op) (bo : Bo x (.builtin id)) (hm : X.mg x = none) (ha : PAd X cl xc W (e :: es) ga) (hg : X.env.kindOf x = some .globalImplicit := by kernel_rfl)
    (he : starEach (e :: es) X.env = (false, eval e X.env) :: starEach es X.env := by kernel_rfl) (hpl : (backTo pos (starEach es X.env)).any (·.1) = false := by kernel_rfl) : PEd X cl xc W (.Call (.Name x p) (e :: es) [] pos) (dB op ga) := by
  obtain ⟨r, h1, h2⟩ := hc
  exact d_blt h1 h2.cas hg hm bo.v ha bo.n bo.d he hpl
theorem d_fT {T : String} {op : List D → Option D} {p : Pos} (hc : CaB X cl (.type T) op) (bo : Bo x (.type T)) (hm : X.mg x = none) (ha : PAd X cl xc W (e :: es) ga) (hg : X.env.kindOf x = some .globalImplicit := by kernel_rfl)
    (he : starEach (e :: es) X.env = (false, eval e X.env) :: starEach es X.env := by kernel_rfl) (hpl : (backTo pos (starEach es X.env)).any (·.1) = false := by kernel_rfl) : PEd X cl xc W (.Call (.Name x p) (e :: es) [] pos) (dB op ga) := by
  obtain ⟨r, h1, h2⟩ := hc
  exact d_bltT h1 h2.cas hg hm bo.v ha bo.n bo.d he hpl
structure CaN (X : Cx) (cl : Nat → Addr) (u : Value) (op : List D → Option D) : Prop where
  ex : ∃ r, CallR X u r ∧ CaW X.K cl r op
theorem cn_list : CaN X cl (.type "list") wList := ⟨_, call_list_of, w_list⟩
theorem cn_tuple : CaN X cl (.type "tuple") wTuple := ⟨_, call_tuple_of, w_tuple⟩
theorem d_nT {T : String} {op : List D → Option D} {p : Pos} (hc : CaN X cl (.type T) op) (bo : Bo x (.type T)) (hm : X.mg x = none) (ha : PAp X cl (e :: es) fs) (hg : X.env.kindOf x = some .globalImplicit := by kernel_rfl)
    (he : starEach (e :: es) X.env = (false, eval e X.env) :: starEach es X.env := by kernel_rfl) (hpl : (backTo pos (starEach es X.env)).any (·.1) = false := by kernel_rfl) : PEd X cl xc W (.Call (.Name x p) (e :: es) [] pos) (dP op fs) := by
  obtain ⟨r, h1, h2⟩ := hc
  exact d_bltTW h1 h2 hg hm bo.v ha bo.n bo.d he hpl
theorem s_is {p p2 : Pos} {T : String} (hm : X.mg "isinstance" = none) (bo : Bo y (.type T)) (hmy : X.mg y = none) (ha : PEp X cl a s) (hT : tyAll.contains T = true := by kernel_rfl) (hT2 : (T == "NoneType") = false := by kernel_rfl) (hg : X.env.kindOf "isinstance" = some .globalImplicit := by kernel_rfl) (hgy : X.env.kindOf y = some .globalImplicit := by kernel_rfl)
    (hs : starEach [a, .Name y p2] X.env = (false, eval a X.env) :: starEach [.Name y p2] X.env := by kernel_rfl) (hs2 : starEach [.Name y p2] X.env = (false, eval (.Name y p2) X.env) :: starEach [] X.env := by kernel_rfl) (hpl : (backTo pos (starEach [.Name y p2] X.env)).any (·.1) = false := by kernel_rfl) :
    PEs X cl (.Call (.Name "isinstance" p) [a, .Name y p2] [] pos) (sUn (bIsi T) s) := s_isi hg hm bo_isi.v hgy hmy bo.v hT hT2 ha bo_isi.n bo_isi.d bo.n bo.d hs hs2 hpl
theorem d_lr3 {p p2 pos2 : Pos} (hm : X.mg "len" = none) (hmy : X.mg "range" = none) (ha : PAd X cl xc W [a, b, c] ga) (hg : X.env.kindOf "len" = some .globalImplicit := by kernel_rfl) (hgy : X.env.kindOf "range" = some .globalImplicit := by kernel_rfl)
    (hs : starEach [a, b, c] X.env = (false, eval a X.env) :: starEach [b, c] X.env := by kernel_rfl) (hpl : (backTo pos2 (starEach [b, c] X.env)).any (·.1) = false := by kernel_rfl)
    (hs2 : starEach [.Call (.Name "range" p2) [a, b, c] [] pos2] X.env = (false, eval (.Call (.Name "range" p2) [a, b, c] [] pos2) X.env) :: starEach [] X.env := by kernel_rfl) (hpl2 : (backTo pos (starEach [] X.env)).any (·.1) = false := by kernel_rfl) :
    PEd X cl xc W (.Call (.Name "len" p) [.Call (.Name "range" p2) [a, b, c] [] pos2] [] pos) (dB bLenR3 ga) := d_lenR3 hg hm bo_len.v hgy hmy bo_range.v ha bo_len.n bo_len.d bo_range.n bo_range.d hs hpl hs2 hpl2
/-! lists -/
theorem d_catW (ha : PEp X cl a s) (hb : PEp X cl b t) : PEd X cl xc W (.BinOp a .Add b pos) (dP2 wCat s t) := d_binW op_cat w_cat ha hb
theorem d_cat (ha : PEd X cl xc W a f) (hb : PEd X cl xc W b g) : PEd X cl xc W (.BinOp a .Add b pos) (dBin oCat f g) := d_bin op_cat o_cat ha hb
theorem d_catT (ha : PEd X cl xc W a f) (hb : PEd X cl xc W b g) : PEd X cl xc W (.BinOp a .Add b pos) (dBin oCatT f g) := d_bin op_catT o_catT ha hb
theorem d_rep (ha : PEd X cl xc W a f) (hb : PEd X cl xc W b g) : PEd X cl xc W (.BinOp a .Mult b pos) (dBin oRep f g) := d_bin op_rep o_rep ha hb
theorem d_x (ha : PEd X cl xc W a f) (hb : PEd X cl xc W b g) (hp : PlainIx b := by exact fun _ _ => by kernel_rfl) : PEd X cl xc W (.Subscript a b pos) (dBin oIx f g) := d_ix ha hb hp
/-! iterables -/
section
variable {tg : Expr}
theorem i_1 {p : Pos} (hm : X.mg "range" = none) (ha : PAd X cl xc W [a] ga) (hg : X.env.kindOf "range" = some .globalImplicit := by kernel_rfl) (hs : starEach [a] X.env = [(false, eval a X.env)] := by kernel_rfl) : PI X tg (.Call (.Name "range" p) [a] [] pos) (tI X.K cl xc W (iR r1It ga)) := i_r1 hg hm ha hs
theorem i_2 {p : Pos} (hm : X.mg "range" = none) (ha : PAd X cl xc W [a, b] ga) (hg : X.env.kindOf "range" = some .globalImplicit := by kernel_rfl) (hs : starEach [a, b] X.env = [(false, eval a X.env), (false, eval b X.env)] := by kernel_rfl) (hs2 : starEach [b] X.env = [(false, eval b X.env)] := by kernel_rfl) : PI X tg (.Call (.Name "range" p) [a, b] [] pos) (tI X.K cl xc W (iR r2It ga)) := i_r2 hg hm ha hs hs2
theorem i_3 {p : Pos} (hm : X.mg "range" = none) (ha : PAd X cl xc W [a, b, c] ga) (hg : X.env.kindOf "range" = some .globalImplicit := by kernel_rfl) (hs : starEach [a, b, c] X.env = (false, eval a X.env) :: starEach [b, c] X.env := by kernel_rfl) (hpl : (backTo pos (starEach [b, c] X.env)).any (·.1) = false := by kernel_rfl) : PI X tg (.Call (.Name "range" p) [a, b, c] [] pos) (tI X.K cl xc W (iR r3It ga)) := i_r3 (pi_range3 hg hm ha hs hpl)
end
/-! statements -/
section
variable {st : Stmt} {rest body orelse : List Stmt} {p q : M → R Fl} {tg iter : Expr} {it : M → R Itr} {gt : TF} {js : List Nat}
theorem g_v (nd : X.N.Nodup) (i : Nat) (hj : js.contains i = true := by kernel_rfl) (hi : X.N[i]? = some x := by kernel_rfl) (hx : locB X.env.scope x = true := by kernel_rfl) (hf : X.fn x = true ∨ X.env.scope.names.lookup x = some .local := by first | exact .inl rfl | exact .inr (by kernel_rfl)) : PG X (.Name x pos) (tG X.K cl js (gNm i)) := g_nm (by simpa using hj) nd hi (loc_of hx) hf
theorem st_v (nd : X.N.Nodup) (i : Nat) {p' : Pos} (he : PEd X cl xc W e f) (hi : X.N[i]? = some x := by kernel_rfl) (hx : locB X.env.scope x = true := by kernel_rfl) (hs : swapsWith e (some (.Name x p')) pos.line X.env = pure false := by kernel_rfl) (hf : X.fn x = true ∨ X.env.scope.names.lookup x = some .local := by first | exact .inl rfl | exact .inr (by kernel_rfl)) : PSd X cl xc W (.Assign [.Name x p'] e pos) (dAsg (gNm i) f) := st_set nd hi (loc_of hx) he hs hf
theorem st_t (he : PEd X cl xc W e f) (hg : PG X tg (tG X.K cl js gt)) (hs : swapsWithSole [tg] e pos.line X.env = pure false := by kernel_rfl) (hw : swappedStores [tg] e X.env = pure none := by kernel_rfl) (h1 : (assignEach [tg] X.env).map (·.2) = [assign tg X.env] := by kernel_rfl) : PSd X cl xc W (.Assign [tg] e pos) (dAsg gt f) := st_asg he hg hs hw h1
theorem st_e (h : PEd X cl xc W e f) (hs : swapsWith e none pos.line X.env = pure false := by kernel_rfl) : PSd X cl xc W (.Expr e pos) (dDrop f) := st_expr h hs
theorem st_f (hp : PassesOwn (model X.prog X.w) X.A X.env X.xe) (hc : X.calm = true) (js : List Nat) (hi : PI X tg iter (tI X.K cl xc W it)) (hg : PG X tg (tG X.K cl js gt)) (hb : PSsd X cl xc W body p)
    (hs : ∀ x, foldedSetIterable iter X.env x = pure x := by exact fun _ => by kernel_rfl) : PSd X cl xc W (.For tg iter body [] pos) (dFor it gt p) := st_for hp hc hi hg hb hs
theorem st_ap {p1 apos pos' : Pos} (i : Nat) (he : PEd X cl xc W e f) (hx : PEl X cl (.Name x p1) i [] := by exact l_v _)
    (hbase : attributeBase (.Name x p1) "append" X.env (eval (.Name x p1) X.env) = eval (.Name x p1) X.env := by kernel_rfl)
    (hfew : ((backTo pos (starEach [e] X.env)).all (fun x => !x.1) && (backToKw pos (keywordEach [] X.env)).all (fun x => x.1.isSome) && decide ([e].length + ([] : List Keyword).length + (if ([] : List Keyword).isEmpty then 0 else 1) < 30)) = true := by kernel_rfl)
    (hline : (apos.endLine == pos.line) = true := by kernel_rfl) (hss : starEach [e] X.env = (false, eval e X.env) :: starEach [] X.env := by kernel_rfl) (hplain : (backTo pos (starEach [] X.env)).any (·.1) = false := by kernel_rfl)
    (hs : swapsWith (.Call (.Attribute (.Name x p1) "append" apos) [e] [] pos) none pos'.line X.env = pure false := by kernel_rfl) :
    PSd X cl xc W (.Expr (.Call (.Attribute (.Name x p1) "append" apos) [e] [] pos) pos') (dApp i f) :=
  st_app hx he (fun to te h1 h2 => pe_bm PySem.F.plainAttrs_list PySem.F.slot_list_append PySem.F.type_list_append mt_append h1 (pa_cons h2 pa_nil hss) hbase hfew hline hss hplain) hs
theorem d_lcv {elt : Expr} {ifs : List Expr} {scope : Scope} {t : M → R Bool} (hc : X.calm = true) (nd : X.N.Nodup) (own : List (Str × Nat)) (hi : PI X tg iter (tI X.K cl xc W it))
    (hb : ∀ (s : Shared) (H : Hp) (C : Addr) (cs : List (Str × Addr)) (fp : List Addr), PG (X.blk s H scope (compEnvC scope cs C X.env) fp) tg (tG X.K cl (own.map (·.2)) gt) ∧ PTs (X.blk s H scope (compEnvC scope cs C X.env) fp) ifs (tT X.K cl xc W0 t) ∧ PEd (X.blk s H scope (compEnvC scope cs C X.env) fp) cl xc W0 elt f)
    (ok : blkC X.N X.env.scope scope own = true := by kernel_rfl) (hs : ∀ x, foldedSetIterable iter X.env x = pure x := by exact fun _ => by kernel_rfl) : PEd X cl xc W (.ListComp elt [⟨tg, iter, ifs, 0⟩] scope pos) (dLc it gt t f (own.map (·.2))) := d_lc hc nd hi (blkOk_by ok) hb hs
theorem st_lc {elt : Expr} {ifs : List Expr} {scope : Scope} {t : M → R Bool} {py spos : Pos} (hc : X.calm = true) (nd : X.N.Nodup) (i : Nat) (own : List (Str × Nat)) (hi : PI X tg iter (tI X.K cl xc W it))
    (hb : ∀ (s : Shared) (H : Hp) (C : Addr) (cs : List (Str × Addr)) (fp : List Addr), PG (X.blk s H scope (compEnvC scope cs C X.env) fp) tg (tG X.K cl (own.map (·.2)) gt) ∧ PTs (X.blk s H scope (compEnvC scope cs C X.env) fp) ifs (tT X.K cl xc W0 t) ∧ PEd (X.blk s H scope (compEnvC scope cs C X.env) fp) cl xc W0 elt f)
    (hy : X.N[i]? = some y := by kernel_rfl) (hk : X.env.scope.kind = .function := by kernel_rfl) (hyl : X.env.scope.names.lookup y = some .local := by kernel_rfl) (hl : (py.line == pos.line) = true := by kernel_rfl) (ha : (scope.names.any fun (n, k) => n == y && (k == .local || k == .cell)) = false := by kernel_rfl)
    (ok : blkC X.N X.env.scope scope own = true := by kernel_rfl) (hs : ∀ x, foldedSetIterable iter X.env x = pure x := by exact fun _ => by kernel_rfl) : PSd X cl xc W (.Assign [.Name y py] (.ListComp elt [⟨tg, iter, ifs, 0⟩] scope pos) spos) (dAsg (gNm i) (dLc it gt t f (own.map (·.2)))) :=
  st_setLc hc nd hy hyl (sw_true hk hyl hl ha) hi (blkOk_by ok) hb hs
end
end
/-! defs -/
section
variable {P : Program} {w : World} {K : PySem.W.Frag} {mg : Str → Option Value} {base : Heap} {cl : Nat → Addr} {xc : XC}
structure Fo (P : Program) (w : World) (K : PySem.W.Frag) (mg : Str → Option Value) (base : Heap) (cl : Nat → Addr) (xc : XC) (k : Nat) (x : Str) (np : Nat) (fn : List D → RC) : Prop where
  ex : ∃ (fa : Addr) (fdt : FuncData) (ps : List Str), ps.length = np ∧ mg x = some (.ref fa) ∧ FnOk P w K mg base (L2.CX P w) k fa fdt ps (spF K cl xc np fn) ∧ PySem.W.keepIn K (.ref fa) = true ∧ Binds K fdt ps []
theorem fn_def {x qual : Str} {params : Arguments} {body : List Stmt} {scope : Scope} {dvs : List V} {kws : List (Str × V)} {f : Addr} {fd : FuncData} {N ps : List Str} {k : Nat} {b : M → R Fl} (F : FunD K x qual params body scope dvs kws f fd) (S : FnScope N ps scope)
    (hb : ∀ (cdv : Value) (A : Around) (outer : List Env) (s : Shared) (H : Hp) (E : XK), Room k (A.deeper (envOfC qual scope s.heap.objs.size f cdv)) → PSsd (cxOf (L2.CX P w) P w K mg base N qual scope f cdv A outer s H E) cl xc (fun c d _ H => E c d H) body b) :
    FnOk P w K mg base (L2.CX P w) (k + 1) f fd ps (spF K cl xc ps.length (runB ps.length N.length b)) := by
  refine F.ok S (fun vs H Q E h => ?_) (fun cdv A outer s H vs Q E hr h => ⟨_, hb cdv A outer s H E hr, ?_⟩)
  · obtain ⟨_, _, _, _, _, h, _⟩ := h
    exact h
  · obtain ⟨φ, gd, gv, F, ds, hv, hd, wf, q⟩ := h
    have hN : ps.length ≤ N.length := by have := congrArg List.length S.pre; rw [List.length_take] at this; omega
    refine tS_post.mpr ⟨φ, gd, gv, F, _, vs, start_rel wf hv hd hN, ?_⟩
    unfold runB at q
    rw [if_pos hd] at q
    have ll : ∀ {ψ : Type} {gd : ψ → D} {gv : ψ → V} {F H : Hp} {σ : St} {m : M}, Rel K cl gd gv F H σ m vs → m.ls.length = ps.length := fun r => by rw [← r.ll]; exact hv
    cases e : b (m0 ps.length N.length ds) with
    | no => rw [e] at q; exact q
    | ex c n m' => rw [e] at q; exact fun F' H' σ' dx r hx => q F' H' dx (ll r) r.args hx
    | ok fl m' =>
      rw [e] at q
      cases fl with
      | nx => exact fun F' H' σ' r => q F' H' .non (ll r) (r.push (d := .non) (r.wf.dup0 ⟨rfl, rfl⟩)).argsTop
      | bk => exact q.elim
      | ct => exact q.elim
      | rt d => exact fun F' H' σ' v r => q F' H' v (ll r) r.argsTop
theorem fo_def {x qual : Str} {params : Arguments} {body : List Stmt} {scope : Scope} {kws : List (Str × V)} {f : Addr} {fd : FuncData} {N ps : List Str} {k : Nat} {b : M → R Fl} (F : FunD K x qual params body scope [] kws f fd) (hm : mg x = some (.ref f)) (S : FnScope N ps scope)
    (hbi : ∀ (kV doc pm : Value) (an : Option Addr) (cdv ct : Value) (us : List Value), us.length = ps.length → bindArgs (PySem.W.fnOf x qual params body scope .none kV doc pm an cdv ct) ⟨us, []⟩ = pure (ps.zip us))
    (hb : ∀ (cdv : Value) (A : Around) (outer : List Env) (s : Shared) (H : Hp) (E : XK), Room k (A.deeper (envOfC qual scope s.heap.objs.size f cdv)) → PSsd (cxOf (L2.CX P w) P w K mg base N qual scope f cdv A outer s H E) cl xc (fun c d _ H => E c d H) body b) :
    Fo P w K mg base cl xc (k + 1) x ps.length (runB ps.length N.length b) := ⟨f, fd, ps, rfl, hm, fn_def F S hb, F.kp, F.bindsN hbi⟩
end
section
variable {X : Cx} {cl : Nat → Addr} {xc : XC} {W : WX} {e : Expr} {es : List Expr} {pos p : Pos} {x : Str} {as : List Ar}
theorem d_call1 {j k np : Nat} {fn : List D → RC} (tk : Takes X W) (G : Fo X.prog X.w X.K X.mg X.base cl xc j x np fn) (hr : Room k X.A) (ha : PAr X cl xc W (e :: es) as) (hjk : j ≤ k := by decide) (hn : as.length = np := by kernel_rfl) (hg : X.env.kindOf x = some .globalImplicit := by kernel_rfl)
    (hdb : (x == ("__debug__" : Str)) = false := by kernel_rfl) (he : starEach (e :: es) X.env = (false, eval e X.env) :: starEach es X.env := by kernel_rfl) (hpl : (backTo pos (starEach es X.env)).any (·.1) = false := by kernel_rfl) : PEd X cl xc W (.Call (.Name x p) (e :: es) [] pos) (dCall fn as) := by
  obtain ⟨fa, fdt, ps, rfl, hm, G, hk, hb⟩ := G
  exact d_call tk G (hr.mono hjk) hg hm hk hb ha hn hdb he hpl
end
end Rf
namespace Rf
open PySem L2
def oAddI : D → D → Option D
  | .int i, .int j => some (.int (i + j))
  | _, _ => none
theorem p_addI : OpP (ipI fun i j => i + j) oAddI := by
  intro x y z vx vy H Q e hx hy
  unfold oAddI at e
  split at e
  · cases e; cases hx; cases hy
    exact ⟨rfl, fun q => ⟨_, _, rfl, rfl, q _ rfl⟩⟩
  · cases e
theorem p_subI : OpP (ipI fun i j => i - j) oSub := by
  intro x y z vx vy H Q e hx hy
  unfold oSub at e
  split at e
  · cases e; cases hx; cases hy
    exact ⟨rfl, fun q => ⟨_, _, rfl, rfl, q _ rfl⟩⟩
  · cases e
theorem sc_addI {x y z : D} (h : oAddI x y = some z) : isSc x = true ∧ isSc y = true := by unfold oAddI at h; split at h <;> first | exact ⟨rfl, rfl⟩ | cases h
theorem OpQ.ops {K : PySem.W.Frag} {cl : Nat → Addr} {r : R2} {o : D → D → Option D} (h : OpQ K cl r o) : OpS K cl r o := by
  intro ι rd rv F H x y z vx vy Q e w k
  obtain ⟨f, ry⟩ := w.topRep
  obtain ⟨f', rx⟩ := w.top2Rep
  obtain ⟨h1, h2⟩ := h F H x y z vx vy f' f Q w.ex e rx ry
  exact h2 fun v hv => k F H v (w.pop.pop.dup0 hv.rep)
section
variable {X : Cx} {cl : Nat → Addr} {xc : XC} {W : WX} {e a b c : Expr} {pos : Pos} {s t : SF} {f g : M → R D} {x y : Str}
/-! arithmetic of anything -/
theorem d_add (ha : PEd X cl xc W a f) (hb : PEd X cl xc W b g) : PEd X cl xc W (.BinOp a .Add b pos) (dBin oAdd f g) := d_bin (op_add.or op_add_str) (p_add.ops fun _ _ _ h => sc_add h) ha hb
theorem d_sub (ha : PEd X cl xc W a f) (hb : PEd X cl xc W b g) : PEd X cl xc W (.BinOp a .Sub b pos) (dBin oSub f g) := d_bin op_sub (p_sub.ops fun _ _ _ h => sc_sub h) ha hb
theorem d_mul (ha : PEd X cl xc W a f) (hb : PEd X cl xc W b g) : PEd X cl xc W (.BinOp a .Mult b pos) (dBin oMul f g) := d_bin op_mul (p_mul.ops fun _ _ _ h => sc_mul h) ha hb
theorem d_div (ha : PEd X cl xc W a f) (hb : PEd X cl xc W b g) : PEd X cl xc W (.BinOp a .FloorDiv b pos) (dBin oDiv f g) := d_bin (op_fdiv.or op_fdivN) (p_div.ops fun _ _ _ h => sc_div h) ha hb
theorem d_mod (ha : PEd X cl xc W a f) (hb : PEd X cl xc W b g) : PEd X cl xc W (.BinOp a .Mod b pos) (dBin oMod f g) := d_bin (op_mod.or op_modN) (p_mod.ops fun _ _ _ h => sc_mod h) ha hb
theorem d_pow (ha : PEd X cl xc W a f) (hb : PEd X cl xc W b g) : PEd X cl xc W (.BinOp a .Pow b pos) (dBin oPow f g) := d_bin op_pow (p_pow.ops fun _ _ _ h => sc_pow h) ha hb
theorem d_shl (ha : PEd X cl xc W a f) (hb : PEd X cl xc W b g) : PEd X cl xc W (.BinOp a .LShift b pos) (dBin oShl f g) := d_bin op_shl (p_shl.ops fun _ _ _ h => sc_shl h) ha hb
theorem d_shr (ha : PEd X cl xc W a f) (hb : PEd X cl xc W b g) : PEd X cl xc W (.BinOp a .RShift b pos) (dBin oShr f g) := d_bin op_shr (p_shr.ops fun _ _ _ h => sc_shr h) ha hb
theorem d_band (ha : PEd X cl xc W a f) (hb : PEd X cl xc W b g) : PEd X cl xc W (.BinOp a .BitAnd b pos) (dBin oAnd f g) := d_bin op_and (p_and.ops fun _ _ _ h => sc_and h) ha hb
theorem d_bor (ha : PEd X cl xc W a f) (hb : PEd X cl xc W b g) : PEd X cl xc W (.BinOp a .BitOr b pos) (dBin oOr f g) := d_bin op_or (p_or.ops fun _ _ _ h => sc_or h) ha hb
theorem UnP.uns {K : PySem.W.Frag} {cl : Nat → Addr} {r : V → Hp → VK → Prop} {o : D → Option D} (h : UnP r o) (hsc : ∀ x z, o x = some z → isSc x = true) : UnS K cl r o := by
  intro ι rd rv F H x z vx Q e w k
  obtain ⟨f, rx⟩ := w.topRep
  obtain ⟨_, h4⟩ := h x z vx H Q e (rx.scal (hsc x z e))
  exact h4 fun v hv => k _ _ v (w.pop.dup0 hv.rep)
theorem d_neg (ha : PEd X cl xc W a f) : PEd X cl xc W (.UnaryOp .USub a pos) (dUn oNeg f) := d_un un_neg (p_neg.uns fun _ _ h => sc_neg h) ha
theorem d_c1 {op : CmpOp} {o : D → D → Option D} (h : CmpR X op o) (ha : PEd X cl xc W a f) (hb : PEd X cl xc W b g) (hm : behindInMarks op b = false := by kernel_rfl) : PEd X cl xc W (.Compare a [op] [b] pos) (dBin o f g) := by
  obtain ⟨⟨r, h1, h2⟩, h3⟩ := h
  exact d_cmp h1 (h2.ops h3) ha hb hm
theorem td_c1 {op : CmpOp} {o : D → D → Option D} (h : CmpR X op o) (ha : PEd X cl xc W a f) (hb : PEd X cl xc W b g) (hm : behindInMarks op b = false := by kernel_rfl) : PTd X cl xc W (.Compare a [op] [b] pos) (dT (dBin o f g)) := by
  obtain ⟨⟨r, h1, h2⟩, h3⟩ := h
  exact t_cmpD h1 (h2.ops h3) ha hb hm
theorem d_q {op : CmpOp} {o : D → D → Option D} (h : CmpQ X cl op o) (ha : PEd X cl xc W a f) (hb : PEd X cl xc W b g) (hm : behindInMarks op b = false := by kernel_rfl) : PEd X cl xc W (.Compare a [op] [b] pos) (dBin o f g) := by
  obtain ⟨r, h1, h2⟩ := h
  exact d_cmp h1 h2.ops ha hb hm
theorem td_q {op : CmpOp} {o : D → D → Option D} (h : CmpQ X cl op o) (ha : PEd X cl xc W a f) (hb : PEd X cl xc W b g) (hm : behindInMarks op b = false := by kernel_rfl) : PTd X cl xc W (.Compare a [op] [b] pos) (dT (dBin o f g)) := by
  obtain ⟨r, h1, h2⟩ := h
  exact t_cmpD h1 h2.ops ha hb hm
/-! names of the module that stand for ints and texts -/
theorem s_gi {i : Int} (h : ∃ t, X.mg x = some (.int i t)) (hg : X.env.kindOf x = some .globalImplicit := by kernel_rfl) (hd : (x == ("__debug__" : Str)) = false := by kernel_rfl) : PEs X cl (.Name x pos) (sC (.int i)) := by
  obtain ⟨t, h⟩ := h
  exact s_const (v := _) (pe_glob hg h (v := .int i) ⟨t, rfl⟩ hd) rfl rfl
theorem s_gs {z : Str} (h : ∃ t, X.mg x = some (.str z t)) (hg : X.env.kindOf x = some .globalImplicit := by kernel_rfl) (hd : (x == ("__debug__" : Str)) = false := by kernel_rfl) : PEs X cl (.Name x pos) (sC (.str z)) := by
  obtain ⟨t, h⟩ := h
  exact s_const (v := _) (pe_glob hg h (v := .str z) ⟨t, rfl⟩ hd) rfl rfl
/-! targets, stores -/
theorem st_augAdd (nd : X.N.Nodup) (i : Nat) {p1 : Pos} (he : PEs X cl e s) (hi : X.N[i]? = some x := by kernel_rfl) (hx : locB X.env.scope x = true := by kernel_rfl) (hf : X.fn x = true ∨ X.env.scope.names.lookup x = some .local := by first | exact .inl rfl | exact .inr (by kernel_rfl)) : PSd X cl xc W (.AugAssign (.Name x p1) .Add e pos) (dAug i oAddI s) :=
  st_aug nd hi (loc_of hx) he ip_add p_addI (fun _ _ _ h => sc_addI h) hf
theorem st_augSub (nd : X.N.Nodup) (i : Nat) {p1 : Pos} (he : PEs X cl e s) (hi : X.N[i]? = some x := by kernel_rfl) (hx : locB X.env.scope x = true := by kernel_rfl) (hf : X.fn x = true ∨ X.env.scope.names.lookup x = some .local := by first | exact .inl rfl | exact .inr (by kernel_rfl)) : PSd X cl xc W (.AugAssign (.Name x p1) .Sub e pos) (dAug i oSub s) :=
  st_aug nd hi (loc_of hx) he ip_sub p_subI (fun _ _ _ h => sc_sub h) hf
theorem g_t2 {a b : Expr} {ga gb : TF} {js : List Nat} {k : Nat} (hc : X.calm = true) (ha : PG X a (tG X.K cl js ga)) (hb : PG X b (tG X.K cl js gb)) (hn : (assignEach [a, b] X.env).length = 2 := by kernel_rfl) (hst : (assignEach [a, b] X.env).findIdx? (·.1) = none := by kernel_rfl)
    (h1 : (assignEach [a, b] X.env).map (·.2) = assign a X.env :: (assignEach [b] X.env).map (·.2) := by kernel_rfl) (h2 : (assignEach [b] X.env).map (·.2) = assign b X.env :: (assignEach [] X.env).map (·.2) := by kernel_rfl) : PG X (.Tuple [a, b] k pos) (tG X.K cl js (gTp (gsCons ga (gsCons gb gsNil)))) :=
  g_tup hc (gs_cons ha (gs_cons hb gs_nil h2) h1) hn hst (gsLen1 (gsLen1 fun _ _ _ h => gsLen0 h))
theorem g_t3 {a b c : Expr} {ga gb gc : TF} {js : List Nat} {k : Nat} (hc : X.calm = true) (ha : PG X a (tG X.K cl js ga)) (hb : PG X b (tG X.K cl js gb)) (hcc : PG X c (tG X.K cl js gc)) (hn : (assignEach [a, b, c] X.env).length = 3 := by kernel_rfl) (hst : (assignEach [a, b, c] X.env).findIdx? (·.1) = none := by kernel_rfl)
    (h1 : (assignEach [a, b, c] X.env).map (·.2) = assign a X.env :: (assignEach [b, c] X.env).map (·.2) := by kernel_rfl) (h2 : (assignEach [b, c] X.env).map (·.2) = assign b X.env :: (assignEach [c] X.env).map (·.2) := by kernel_rfl) (h3 : (assignEach [c] X.env).map (·.2) = assign c X.env :: (assignEach [] X.env).map (·.2) := by kernel_rfl) :
    PG X (.Tuple [a, b, c] k pos) (tG X.K cl js (gTp (gsCons ga (gsCons gb (gsCons gc gsNil))))) :=
  g_tup hc (gs_cons ha (gs_cons hb (gs_cons hcc gs_nil h3) h2) h1) hn hst (gsLen1 (gsLen1 (gsLen1 fun _ _ _ h => gsLen0 h)))
theorem st_x {i : Nat} {ps : List Stp} {o ix : Expr} {p1 : Pos} (he : PEd X cl xc W e f) (ho : PEl X cl o i ps) (hi : PEs X cl ix s) (ha : ∀ v, assign (.Subscript o ix p1) X.env v = (do
      let ov ← holding [v] (eval o X.env)
      let iv ← holding [v, ov] (eval ix X.env)
      standAt p1
      holding [v, ov, iv] (setItem ov iv v)
      release [v, ov, iv] []) := by exact fun _ => by kernel_rfl)
    (hs : swapsWithSole [.Subscript o ix p1] e pos.line X.env = pure false := by kernel_rfl) (hw : swappedStores [.Subscript o ix p1] e X.env = pure none := by kernel_rfl) (h1 : (assignEach [.Subscript o ix p1] X.env).map (·.2) = [assign (.Subscript o ix p1) X.env] := by kernel_rfl) :
    PSd X cl xc W (.Assign [.Subscript o ix p1] e pos) (dSetIx i ps s f) := st_setIx he ho hi ha hs hw h1
end
end Rf
namespace Rf
open PySem L2
open PyProof.Rows (envOfC)
/-- the script -/
def scr (ns : List Int) : D := .obj .con .lst (ns.map D.int)
theorem reps_ints {K : PySem.W.Frag} {cl : Nat → Addr} {F H : Hp} : ∀ ns : List Int, Reps K cl F H (ns.map D.int) (ns.map V.int) []
  | [] => ⟨rfl, rfl⟩
  | n :: ns => ⟨.int n, ns.map V.int, [], [], rfl, rfl, ⟨rfl, rfl⟩, reps_ints ns⟩
theorem law_sp {K : PySem.W.Frag} {cl : Nat → Addr} {xc : XC} {f : List D → RC} {H : Hp} {a : Addr} {ns : List Int} {E : XK} (hf : ∃ as, f [scr ns] = .ok (.bl true) as) (hS : SqL K H a (ns.map V.int)) : spF K cl xc 1 f [.ref a] H (fun v _ => v = .bl true) E := by
  obtain ⟨as, hf⟩ := hf
  refine ⟨Empty, Empty.elim, Empty.elim, H, [scr ns], rfl, rfl, ⟨Ex.refl H, fun _ => [], fun r => ?_, fun _ => List.nodup_nil, fun r r' b hb => by simp at hb⟩, ?_⟩
  · rcases r with i | r
    · match i with
      | 0 => exact ⟨a, ns.map V.int, [], rfl, ⟨hS, rfl, rfl⟩, reps_ints ns⟩
      | i + 1 => exact rfl
    · exact r.elim
  · rw [hf]
    intro F' H' v _ w
    obtain ⟨fp, h1, _⟩ := w.fp
    exact (h1 none).1
/-- the end of a law: its def's promise over the written part -/
theorem walk_law {l : PySem.W.OpenLaw} {n k : Nat} {q : Program} {loose : List Str} {XP : (Str → Option Value) → Heap → Prop} {YP : World → Heap → Prop} {d : DefRec} {x : Str} {cl : PySem.W.Frag → Nat → Addr} {xc : PySem.W.Frag → XC} {f : List D → RC}
    (hn : l.most = some n) (hn2 : n ≤ sizeLine) (hdf : d.params.defaults = []) (hr : Room k PySem.callerA)
    (hf : ∀ ns : List Int, ns.length ≤ n → ∃ as, f [scr ns] = .ok (.bl true) as)
    (told : ∀ (w : World) (mg : Str → Option Value) (fa : Addr) (h : Heap), YP w h → h.Ns mainGlobals mg → mg d.name = some (.ref fa) → ∃ (K : PySem.W.Frag) (fd : FuncData), K.In h ∧ (∀ (s : Shared) (u : Value), BindsTo s fd ⟨[u], []⟩ [(x, u)]) ∧
      ∀ base : Heap, K.In base → base.Ns mainGlobals mg → FnOk l.prog w K mg base (L2.CX l.prog w) k fa fd [x] (spF K (cl K) (xc K) 1 f)) :
    PySem.W.WalkO q loose XP YP l.row.toRowW d [] (fun g vs => PySem.call g vs) := by
  refine Att.attach_call hn hdf ?_
  intro w s0 s1 mg mb fa o pm cd doc a vs ns G Y ho hd hcd hmg hobj hints hlen hg
  obtain ⟨K, fd, KX, hb, hF⟩ := told w mg fa _ Y G.T.g hmg
  refine law_call KX G.T.g G.T.b G.T.builtins G.T.nolimit hg hobj hints (Nat.le_trans hlen hn2) hr hF hb (fun H hO hS => law_sp (hf ns hlen) hS) ?_
  intro H e s' h
  obtain ⟨_, _, _, _, _, _, _, _, _, _, _, _, z⟩ := h
  exact z.elim
end Rf
namespace Rf
open PySem L2
/-! the plain side: what the denotations come to at a state -/
theorem R.bind_congr {α β : Type} {r r' : R α} {f : α → M → R β} (h : r = r') : r.bind f = r'.bind f := by rw [h]
@[simp] theorem R.bind_ok {α β : Type} (a : α) (m : M) (f : α → M → R β) : (R.ok a m).bind f = f a m := rfl
@[simp] theorem R.bind_ex {α β : Type} (c : Nat) (n : Option Int) (m : M) (f : α → M → R β) : (R.ex c n m : R α).bind f = .ex c n m := rfl
@[simp] theorem R.bind_no {α β : Type} (f : α → M → R β) : (R.no : R α).bind f = .no := rfl
@[simp] theorem ofO_some {α : Type} (a : α) (m : M) : ofO (some a) m = .ok a m := rfl
@[simp] theorem ofO_none {α : Type} (m : M) : ofO (none : Option α) m = .no := rfl
@[simp] theorem isAbs_abs : isAbs .abs = true := rfl
@[simp] theorem isAbs_non : isAbs .non = false := rfl
@[simp] theorem isAbs_bl (b : Bool) : isAbs (.bl b) = false := rfl
@[simp] theorem isAbs_int (b : Int) : isAbs (.int b) = false := rfl
@[simp] theorem isAbs_str (b : Str) : isAbs (.str b) = false := rfl
@[simp] theorem isAbs_obj (o : Ow) (k : Kd) (ds : List D) : isAbs (.obj o k ds) = false := rfl
@[simp] theorem isSc_non : isSc .non = true := rfl
@[simp] theorem isSc_bl (b : Bool) : isSc (.bl b) = true := rfl
@[simp] theorem isSc_int (b : Int) : isSc (.int b) = true := rfl
@[simp] theorem isSc_str (b : Str) : isSc (.str b) = true := rfl
@[simp] theorem isSc_obj (o : Ow) (k : Kd) (ds : List D) : isSc (.obj o k ds) = false := rfl
@[simp] theorem toSc_non : toSc .non = some .non := rfl
@[simp] theorem toSc_bl (b : Bool) : toSc (.bl b) = some (.bl b) := rfl
@[simp] theorem toSc_int (b : Int) : toSc (.int b) = some (.int b) := rfl
@[simp] theorem toSc_str (b : Str) : toSc (.str b) = some (.str b) := rfl
@[simp] theorem toSc_obj (o : Ow) (k : Kd) (ds : List D) : toSc (.obj o k ds) = none := rfl
@[simp] theorem bOf_bl (b : Bool) : bOf (.bl b) = some b := rfl
@[simp] theorem frz_non : frz .non = .non := rfl
@[simp] theorem frz_bl (b : Bool) : frz (.bl b) = .bl b := rfl
@[simp] theorem frz_int (b : Int) : frz (.int b) = .int b := rfl
@[simp] theorem frz_str (b : Str) : frz (.str b) = .str b := rfl
@[simp] theorem frz_own (k : Kd) (ds : List D) : frz (.obj .own k ds) = .obj .shr k (frzs ds) := by simp [frz]
@[simp] theorem frz_shr (k : Kd) (ds : List D) : frz (.obj .shr k ds) = .obj .shr k ds := by simp [frz]
@[simp] theorem frz_con (k : Kd) (ds : List D) : frz (.obj .con k ds) = .obj .con k ds := by simp [frz]
@[simp] theorem frzs_nil : frzs [] = [] := rfl
@[simp] theorem frzs_cons (d : D) (ds : List D) : frzs (d :: ds) = frz d :: frzs ds := by simp [frzs]
@[simp] theorem frzs_map_int (ns : List Int) : frzs (ns.map D.int) = ns.map D.int := by induction ns with
  | nil => rfl
  | cons n ns ih => simp [ih]
@[simp] theorem frzs_map_bl (ns : List Bool) : frzs (ns.map D.bl) = ns.map D.bl := by induction ns with
  | nil => rfl
  | cons n ns ih => simp [ih]
@[simp] theorem frzs_map_str (ns : List Str) : frzs (ns.map D.str) = ns.map D.str := by induction ns with
  | nil => rfl
  | cons n ns ih => simp [ih]
theorem frzs_app (xs ys : List D) : frzs (xs ++ ys) = frzs xs ++ frzs ys := by induction xs with
  | nil => rfl
  | cons x xs ih => simp [ih]
@[simp] theorem frzs_length (xs : List D) : (frzs xs).length = xs.length := frzs_len xs
@[simp] theorem intsD_map (ns : List Int) : intsD (ns.map D.int) = some ns := by induction ns with
  | nil => rfl
  | cons n ns ih => simp [intsD, ih]
@[simp] theorem blsD_map (ns : List Bool) : blsD (ns.map D.bl) = some ns := by induction ns with
  | nil => rfl
  | cons n ns ih => simp [blsD, ih]
@[simp] theorem rl0 : (List.range 0).map Sl.len = [] := rfl
@[simp] theorem rl1 : (List.range 1).map Sl.len = [.len 0] := rfl
@[simp] theorem rl2 : (List.range 2).map Sl.len = [.len 0, .len 1] := rfl
@[simp] theorem rl3 : (List.range 3).map Sl.len = [.len 0, .len 1, .len 2] := rfl
@[simp] theorem rl4 : (List.range 4).map Sl.len = [.len 0, .len 1, .len 2, .len 3] := rfl
@[simp] theorem rl5 : (List.range 5).map Sl.len = [.len 0, .len 1, .len 2, .len 3, .len 4] := rfl
@[simp] theorem rl6 : (List.range 6).map Sl.len = [.len 0, .len 1, .len 2, .len 3, .len 4, .len 5] := rfl
@[simp] theorem rl7 : (List.range 7).map Sl.len = [.len 0, .len 1, .len 2, .len 3, .len 4, .len 5, .len 6] := rfl
@[simp] theorem kids_obj (o : Ow) (k : Kd) (ds : List D) : kids (.obj o k ds) = ds := rfl
@[simp] theorem rd_ap (m : M) (i : Nat) : rd m i = (match m.sl[i]? with
  | some (.val d) => d
  | some (.len k) => m.ls[k]?.getD .abs
  | none => .abs) := rfl
@[simp] theorem wr_ap (m : M) (i : Nat) (d : D) : wr m i d = (match m.sl[i]? with
  | some (.val _) => { m with sl := m.sl.set i (.val d) }
  | some (.len k) => { m with ls := m.ls.set k d }
  | none => m) := rfl
@[simp] theorem setS_ap (m : M) (i : Nat) (d : D) : setS m i d = { m with sl := m.sl.set i (.val d) } := rfl
@[simp] theorem resolve_nil (m : M) (d : D) : resolve m d [] = some ([], d) := rfl
@[simp] theorem resolve_cons (m : M) (d : D) (s : Stp) (ps : List Stp) : resolve m d (s :: ps) = (match step1 m d s with
  | some (q, y) => (resolve m y ps).map fun r => (q :: r.1, r.2)
  | none => none) := rfl
@[simp] theorem step1_l (m : M) (o : Ow) (ds : List D) (s : SF) : step1 m (.obj o .lst ds) (.ix s) = (match s m with
  | some (.int i) => match ixN ds.length i with
    | some j => (ds[j]?).map fun y => (.ix j, y)
    | none => none
  | _ => none) := rfl
@[simp] theorem step1_t (m : M) (o : Ow) (ds : List D) (s : SF) : step1 m (.obj o .tup ds) (.ix s) = (match s m with
  | some (.int i) => match ixN ds.length i with
    | some j => (ds[j]?).map fun y => (.ix j, y)
    | none => none
  | _ => none) := rfl
@[simp] theorem step1_f (m : M) (o : Ow) (c : Nat) (ns : List Str) (ds : List D) (cs : List Nat) (f : Str) : step1 m (.obj o (.ins c ns) ds) (.fld cs f) = (if cs.contains c then match ns.findIdx? (fun x => decide (x = f)) with
    | some j => (ds[j]?).map fun y => (.fld f, y)
    | none => none
    else none) := rfl
@[simp] theorem pargs_nil (m : M) : pargs [] m = some [] := rfl
@[simp] theorem pargs_cons (f : SF) (fs : List SF) (m : M) : pargs (f :: fs) m = (f m).bind fun d => (pargs fs m).bind fun ds => some (d :: ds) := rfl
@[simp] theorem clr_nil (m : M) : clr [] m = some (m, []) := rfl
@[simp] theorem clr_cons (j : Nat) (js : List Nat) (m : M) : clr (j :: js) m = ((clr js m).bind fun z => match z.1.sl[j]? with
    | some (.val d) => some (setS z.1 j .abs, d :: z.2)
    | _ => none) := rfl
@[simp] theorem rst_nil (ds : List D) (m : M) : rst [] ds m = m := rfl
@[simp] theorem rst_cons (j : Nat) (js : List Nat) (d : D) (ds : List D) (m : M) : rst (j :: js) (d :: ds) m = rst js ds (setS m j d) := rfl
@[simp] theorem clrs_nil (m : M) : clrs [] m = m := rfl
@[simp] theorem clrs_cons (j : Nat) (js : List Nat) (m : M) : clrs (j :: js) m = setS (clrs js m) j .abs := rfl
@[simp] theorem allVal_nil (m : M) : allVal [] m = true := rfl
@[simp] theorem allVal_cons (j : Nat) (js : List Nat) (m : M) : allVal (j :: js) m = ((match m.sl[j]? with
  | some (.val _) => true
  | _ => false) && allVal js m) := rfl
@[simp] theorem quiet_k {α : Type} (a : α) (m : M) : quiet (.ok a m) = .ok a m := rfl
@[simp] theorem quiet_x {α : Type} (c : Nat) (n : Option Int) (m : M) : quiet (.ex c n m : R α) = .no := rfl
@[simp] theorem quiet_n {α : Type} : quiet (.no : R α) = .no := rfl
@[simp] theorem runB_ap (np ns : Nat) (b : M → R Fl) (as : List D) : runB np ns b as = if as.length = np then rcOf (b (m0 np ns as)) else .no := rfl
@[simp] theorem m0_ap (np ns : Nat) (as : List D) : m0 np ns as = ⟨(List.range np).map .len ++ List.replicate (ns - np) (.val .abs), as⟩ := rfl
@[simp] theorem rcOf_r (d : D) (m : M) : rcOf (.ok (.rt d) m) = .ok d m.ls := rfl
@[simp] theorem rcOf_n (m : M) : rcOf (.ok .nx m) = .ok .non m.ls := rfl
@[simp] theorem rcOf_x (c : Nat) (n : Option Int) (m : M) : rcOf (.ex c n m) = .ex c n m.ls := rfl
@[simp] theorem dArgs_nil (m : M) : dArgs [] m = .ok [] m := rfl
@[simp] theorem dArgs_v (f : M → R D) (r : List Ar) (m : M) : dArgs (.v f :: r) m = (f m).bind fun x m => (dArgs r m).bind fun xs m => .ok (x :: xs) m := rfl
@[simp] theorem dArgs_l (i : Nat) (r : List Ar) (m : M) : dArgs (.l i :: r) m = if isAbs (rd m i) then .no else (dArgs r m).bind fun xs m => .ok (.abs :: xs) m := rfl
@[simp] theorem takeL_nil (m : M) : takeL [] [] m = some ([], m) := rfl
@[simp] theorem takeL_v (f : M → R D) (r : List Ar) (d : D) (ds : List D) (m : M) : takeL (.v f :: r) (d :: ds) m = (takeL r ds m).map fun z => (d :: z.1, z.2) := rfl
@[simp] theorem takeL_l (i : Nat) (r : List Ar) (d : D) (ds : List D) (m : M) : takeL (.l i :: r) (d :: ds) m = if isAbs (rd m i) then none else (takeL r ds (wr m i .abs)).map fun z => (rd m i :: z.1, z.2) := rfl
@[simp] theorem putL_nil (ds : List D) (m : M) : putL [] ds m = m := rfl
@[simp] theorem putL_v (f : M → R D) (r : List Ar) (d : D) (ds : List D) (m : M) : putL (.v f :: r) (d :: ds) m = putL r ds m := rfl
@[simp] theorem putL_l (i : Nat) (r : List Ar) (d : D) (ds : List D) (m : M) : putL (.l i :: r) (d :: ds) m = putL r ds (wr m i d) := rfl
@[simp] theorem isLst_l (o : Ow) (ds : List D) : isLst (.obj o .lst ds) = true := rfl
@[simp] theorem oAdd_i (i j : Int) : oAdd (.int i) (.int j) = some (.int (i + j)) := rfl
@[simp] theorem oAdd_s (a b : Str) : oAdd (.str a) (.str b) = if a.length + b.length ≤ sizeLine then some (.str (a ++ b)) else none := rfl
@[simp] theorem oAddI_i (i j : Int) : oAddI (.int i) (.int j) = some (.int (i + j)) := rfl
@[simp] theorem oSub_i (i j : Int) : oSub (.int i) (.int j) = some (.int (i - j)) := rfl
@[simp] theorem oMul_i (i j : Int) : oMul (.int i) (.int j) = if i.natAbs < 18446744073709551616 ∨ j.natAbs < 18446744073709551616 then some (.int (i * j)) else none := rfl
@[simp] theorem oDiv_i (i j : Int) : oDiv (.int i) (.int j) = if 0 < j ∧ j < 1073741824 then some (.int (i / j)) else if j ≠ 0 ∧ j.natAbs < 1073741824 then some (.int (i.fdiv j)) else none := rfl
@[simp] theorem oMod_i (i j : Int) : oMod (.int i) (.int j) = if 0 < j then some (.int (i % j)) else if j ≠ 0 then some (.int (i.fmod j)) else none := rfl
@[simp] theorem oPow_i (i j : Int) : oPow (.int i) (.int j) = if 0 ≤ j ∧ j ≤ 1000000 ∧ i.natAbs < 18446744073709551616 then some (.int (i ^ j.toNat)) else none := rfl
@[simp] theorem oShl_i (i j : Int) : oShl (.int i) (.int j) = if 0 ≤ j ∧ j ≤ 1000000 ∧ i.natAbs < 18446744073709551616 then some (.int (i * 2 ^ j.toNat)) else none := rfl
@[simp] theorem oShr_i (i j : Int) : oShr (.int i) (.int j) = if 0 ≤ j then some (.int (i / 2 ^ j.toNat)) else none := rfl
@[simp] theorem oAnd_i (i j : Int) : oAnd (.int i) (.int j) = some (.int (Builtin.bitAnd i j)) := rfl
@[simp] theorem oOr_i (i j : Int) : oOr (.int i) (.int j) = some (.int (Builtin.bitOr i j)) := rfl
@[simp] theorem oNeg_i (i : Int) : oNeg (.int i) = some (.int (-i)) := rfl
@[simp] theorem oLt_i (i j : Int) : oLt (.int i) (.int j) = some (.bl (decide (i < j))) := rfl
@[simp] theorem oLe_i (i j : Int) : oLe (.int i) (.int j) = some (.bl (decide (i ≤ j))) := rfl
@[simp] theorem oGt_i (i j : Int) : oGt (.int i) (.int j) = some (.bl (decide (j < i))) := rfl
@[simp] theorem oGe_i (i j : Int) : oGe (.int i) (.int j) = some (.bl (decide (j ≤ i))) := rfl
@[simp] theorem oEq_i (i j : Int) : oEq (.int i) (.int j) = some (.bl (decide (i = j))) := rfl
@[simp] theorem oEq_s (i j : Str) : oEq (.str i) (.str j) = some (.bl (decide (i = j))) := rfl
@[simp] theorem oEq_b (i j : Bool) : oEq (.bl i) (.bl j) = some (.bl (decide (i = j))) := rfl
@[simp] theorem oNe_i (i j : Int) : oNe (.int i) (.int j) = some (.bl (!decide (i = j))) := rfl
@[simp] theorem oNe_s (i j : Str) : oNe (.str i) (.str j) = some (.bl (!decide (i = j))) := rfl
@[simp] theorem oNe_b (i j : Bool) : oNe (.bl i) (.bl j) = some (.bl (!decide (i = j))) := rfl
@[simp] theorem oIsP_non (n : Bool) : oIsP n .non = some (.bl (!n)) := rfl
@[simp] theorem oIsP_int (n : Bool) (i : Int) : oIsP n (.int i) = some (.bl n) := rfl
@[simp] theorem oIsP_bl (n : Bool) (i : Bool) : oIsP n (.bl i) = some (.bl n) := rfl
@[simp] theorem oIsP_str (n : Bool) (i : Str) : oIsP n (.str i) = some (.bl n) := rfl
@[simp] theorem oIsP_obj (n : Bool) (o : Ow) (k : Kd) (ds : List D) : oIsP n (.obj o k ds) = some (.bl n) := rfl
@[simp] theorem bLen_l (o : Ow) (ds : List D) : bLen [.obj o .lst ds] = some (.int ds.length) := rfl
@[simp] theorem bLen_t (o : Ow) (ds : List D) : bLen [.obj o .tup ds] = some (.int ds.length) := rfl
@[simp] theorem bLen_s (s : Str) : bLen [.str s] = if s.length ≤ sizeLine then some (.int s.length) else none := rfl
@[simp] theorem bInt_i (i : Int) : bInt [.int i] = some (.int i) := rfl
@[simp] theorem bInt_b (i : Bool) : bInt [.bl i] = some (.int (if i then 1 else 0)) := rfl
@[simp] theorem bAbs_i (i : Int) : bAbs [.int i] = some (.int (if i < 0 then -i else i)) := rfl
@[simp] theorem bMin2_i (i j : Int) : bMin2 [.int i, .int j] = some (.int (if j < i then j else i)) := rfl
@[simp] theorem bMax2_i (i j : Int) : bMax2 [.int i, .int j] = some (.int (if j > i then j else i)) := rfl
@[simp] theorem bLenR3_i (i j k : Int) : bLenR3 [.int i, .int j, .int k] = if k ≠ 0 ∧ k.natAbs < 1073741824 ∧ 0 ≤ Builtin.Range.rangeSize i j k ∧ Builtin.Range.rangeSize i j k < 2 ^ 63 then some (.int (Builtin.Range.rangeSize i j k)) else none := rfl
@[simp] theorem r1It_i (j : Int) : r1It [.int j] = if j.natAbs < 4611686018427387904 then some ⟨[], ilist 0 1 j.toNat⟩ else none := rfl
@[simp] theorem r2It_i (i j : Int) : r2It [.int i, .int j] = if i.natAbs < 4611686018427387904 ∧ j.natAbs < 4611686018427387904 then some ⟨[], ilist i 1 (j - i).toNat⟩ else none := rfl
@[simp] theorem r3It_i (i j c : Int) : r3It [.int i, .int j, .int c] = if c ≠ 0 ∧ c.natAbs < 1073741824 ∧ Builtin.Range.small i j c = true ∧ Builtin.Range.rangeSize i j c = ((Builtin.Range.rangeSize i j c).toNat : Int) then some ⟨[], ilist i c (Builtin.Range.rangeSize i j c).toNat⟩ else none := rfl
@[simp] theorem dC_ap (d : D) (m : M) : dC d m = (.ok d m) := rfl
@[simp] theorem dVar_ap (i : Nat) (m : M) : dVar i m = (match rd m i with
  | .abs => .no
  | .obj .own k ds => .ok (frz (.obj .own k ds)) (wr m i (frz (.obj .own k ds)))
  | d => .ok d m) := rfl
@[simp] theorem dMv_ap (i : Nat) (m : M) : dMv i m = (match m.sl[i]? with
  | some (.val d) => if isAbs d then .no else .ok d { m with sl := m.sl.set i (.val .abs) }
  | _ => dVar i m) := rfl
@[simp] theorem dBin_ap (op : D → D → Option D) (f g : M → R D) (m : M) : dBin op f g m = ((f m).bind fun x m => (g m).bind fun y m => ofO (op x y) m) := rfl
@[simp] theorem dUn_ap (op : D → Option D) (f : M → R D) (m : M) : dUn op f m = ((f m).bind fun x m => ofO (op x) m) := rfl
@[simp] theorem dFz_ap (f : M → R D) (m : M) : dFz f m = ((f m).bind fun x m => .ok (frz x) m) := rfl
@[simp] theorem sLd_ap (i : Nat) (ps : List Stp) (m : M) : sLd i ps m = (match resolve m (rd m i) ps with
  | some (_, x) => toSc x
  | none => none) := rfl
@[simp] theorem sC_ap (d : D) (m : M) : sC d m = (some d) := rfl
@[simp] theorem sBin_ap (op : D → D → Option D) (s t : SF) (m : M) : sBin op s t m = ((s m).bind fun x => (t m).bind fun y => op x y) := rfl
@[simp] theorem sUn_ap (op : D → Option D) (s : SF) (m : M) : sUn op s m = ((s m).bind op) := rfl
@[simp] theorem sT_ap (s : SF) (m : M) : sT s m = ((s m).bind bOf) := rfl
@[simp] theorem sChn_ap (o o' : D → D → Option D) (s t u : SF) (m : M) : sChn o o' s t u m = ((s m).bind fun x => (t m).bind fun y => (o x y).bind fun z => match z with
  | .bl true => (u m).bind fun w => o' y w
  | .bl false => some (.bl false)
  | _ => none) := rfl
@[simp] theorem dA0_ap (m : M) : dA0 m = (.ok [] m) := rfl
@[simp] theorem dA_ap (f : M → R D) (g : M → R (List D)) (m : M) : dA f g m = ((f m).bind fun x m => (g m).bind fun xs m => .ok (x :: xs) m) := rfl
@[simp] theorem dSq_ap (k : Kd) (g : M → R (List D)) (m : M) : dSq k g m = ((g m).bind fun xs m => if xs.length ≤ sizeLine then .ok (.obj .own k xs) m else .no) := rfl
@[simp] theorem dB_ap (op : List D → Option D) (g : M → R (List D)) (m : M) : dB op g m = ((g m).bind fun xs m => ofO (op xs) m) := rfl
@[simp] theorem dLd_ap (i : Nat) (ps : List Stp) (m : M) : dLd i ps m = (match resolve m (rd m i) ps with
  | some (p, x) => match x with
    | .abs => .no
    | .obj .own k ds => .ok (frz (.obj .own k ds)) (wr m i (dput (rd m i) p (frz (.obj .own k ds))))
    | x => .ok x m
  | none => .no) := rfl
@[simp] theorem dS_ap (s : SF) (m : M) : dS s m = (match s m with
  | some d => if isSc d then .ok d m else .no
  | none => .no) := rfl
@[simp] theorem dTs_ap (s : M → Option Bool) (m : M) : dTs s m = (ofO (s m) m) := rfl
@[simp] theorem dT_ap (f : M → R D) (m : M) : dT f m = ((f m).bind fun d m => match d with
  | .bl b => .ok b m
  | _ => .no) := rfl
@[simp] theorem dAnd_ap (f g : M → R Bool) (m : M) : dAnd f g m = ((f m).bind fun b m => if b then g m else .ok false m) := rfl
@[simp] theorem dOr_ap (f g : M → R Bool) (m : M) : dOr f g m = ((f m).bind fun b m => if b then .ok true m else g m) := rfl
@[simp] theorem dNot_ap (f : M → R Bool) (m : M) : dNot f m = ((f m).bind fun b m => .ok (!b) m) := rfl
@[simp] theorem dIf_ap (t : M → R Bool) (f g : M → R D) (m : M) : dIf t f g m = ((t m).bind fun b m => if b then f m else g m) := rfl
@[simp] theorem dAndV_ap (f g : M → R D) (m : M) : dAndV f g m = ((f m).bind fun d m => match d with
  | .bl true => g m
  | .bl false => .ok (.bl false) m
  | _ => .no) := rfl
@[simp] theorem dOrV_ap (f g : M → R D) (m : M) : dOrV f g m = ((f m).bind fun d m => match d with
  | .bl true => .ok (.bl true) m
  | .bl false => g m
  | _ => .no) := rfl
@[simp] theorem dNotV_ap (f : M → R D) (m : M) : dNotV f m = ((f m).bind fun d m => match d with
  | .bl b => .ok (.bl (!b)) m
  | _ => .no) := rfl
@[simp] theorem dIsN_ap (neg : Bool) (f : M → R D) (m : M) : dIsN neg f m = ((f m).bind fun d m => match d with
  | .abs => .no
  | .pin _ _ => .no
  | .non => .ok (.bl (!neg)) m
  | _ => .ok (.bl neg) m) := rfl
@[simp] theorem dNx_ap (m : M) : dNx m = (.ok .nx m) := rfl
@[simp] theorem dSeq_ap (f g : M → R Fl) (m : M) : dSeq f g m = ((f m).bind fun fl m => match fl with
  | .nx => g m
  | fl => .ok fl m) := rfl
@[simp] theorem dBk_ap (m : M) : dBk m = (.ok .bk m) := rfl
@[simp] theorem dCt_ap (m : M) : dCt m = (.ok .ct m) := rfl
@[simp] theorem dRet_ap (f : M → R D) (m : M) : dRet f m = ((f m).bind fun d m => .ok (.rt d) m) := rfl
@[simp] theorem dRetN_ap (m : M) : dRetN m = (.ok (.rt .non) m) := rfl
@[simp] theorem dIfS_ap (t : M → R Bool) (f g : M → R Fl) (m : M) : dIfS t f g m = ((t m).bind fun b m => if b then f m else g m) := rfl
@[simp] theorem dDrop_ap (f : M → R D) (m : M) : dDrop f m = ((f m).bind fun _ m => .ok .nx m) := rfl
@[simp] theorem gNm_ap (i : Nat) (d : D) (m : M) : gNm i d m = (if i < m.sl.length then some (setS m i d) else none) := rfl
@[simp] theorem gsNil_ap (ds : List D) (m : M) : gsNil ds m = (match ds with
  | [] => some m
  | _ => none) := rfl
@[simp] theorem gsCons_ap (g : TF) (gs : List D → M → Option M) (ds : List D) (m : M) : gsCons g gs ds m = (match ds with
  | d :: ds => (g d m).bind (gs ds)
  | [] => none) := rfl
@[simp] theorem gTp_ap (gs : List D → M → Option M) (d : D) (m : M) : gTp gs d m = (match d with
  | .obj _ .tup xs => gs (frzs xs) m
  | _ => none) := rfl
@[simp] theorem dAsg_ap (g : TF) (f : M → R D) (m : M) : dAsg g f m = ((f m).bind fun d m => match g d m with
  | some m => .ok .nx m
  | none => .no) := rfl
@[simp] theorem dFor_ap (it : M → R Itr) (g : TF) (b : M → R Fl) (m : M) : dFor it g b m = ((it m).bind fun w m => loopF g b w.items m) := rfl
@[simp] theorem iR_ap (op : List D → Option Itr) (g : M → R (List D)) (m : M) : iR op g m = ((g m).bind fun xs m => ofO (op xs) m) := rfl
@[simp] theorem iV_ap (f : M → R D) (m : M) : iV f m = ((f m).bind fun d m => match d with
  | .obj o .lst xs => .ok ⟨[frz (.obj o .lst xs)], kids (frz (.obj o .lst xs))⟩ m
  | .obj o .tup xs => .ok ⟨[frz (.obj o .tup xs)], kids (frz (.obj o .tup xs))⟩ m
  | .str s => .ok ⟨[], signs s⟩ m
  | _ => .no) := rfl
@[simp] theorem iZp_ap (g : M → R (List D)) (m : M) : iZp g m = ((g m).bind fun xs m => match xs with
  | [.obj o .lst xs, .obj o' .lst ys] => .ok ⟨[frz (.obj o .lst xs), frz (.obj o' .lst ys)], pairs (kids (frz (.obj o .lst xs))) (kids (frz (.obj o' .lst ys)))⟩ m
  | _ => .no) := rfl
@[simp] theorem iEn_ap (g : M → R (List D)) (m : M) : iEn g m = ((g m).bind fun xs m => match xs with
  | [.obj o .lst xs] => .ok ⟨[frz (.obj o .lst xs)], numbered 0 (kids (frz (.obj o .lst xs)))⟩ m
  | _ => .no) := rfl
@[simp] theorem dApp_ap (i : Nat) (f : M → R D) (m : M) : dApp i f m = (if isLst (rd m i) then (f m).bind fun d m => match rd m i with
    | .obj .own .lst xs => if xs.length < sizeLine then .ok .nx (wr m i (.obj .own .lst (xs ++ [d]))) else .no
    | _ => .no
  else .no) := rfl
@[simp] theorem dExt_ap (i : Nat) (f : M → R D) (m : M) : dExt i f m = (if isLst (rd m i) then (f m).bind (extS i) else .no) := rfl
@[simp] theorem dAppP_ap (i : Nat) (ps : List Stp) (s : SF) (m : M) : dAppP i ps s m = (match resolve m (rd m i) ps, s m with
  | some (p, .obj .own .lst xs), some d => if xs.length < sizeLine ∧ isSc d = true ∧ down (rd m i) p = true then .ok .nx (wr m i (dput (rd m i) p (.obj .own .lst (xs ++ [d])))) else .no
  | _, _ => .no) := rfl
@[simp] theorem dSetIx_ap (i : Nat) (ps : List Stp) (s : SF) (f : M → R D) (m : M) : dSetIx i ps s f m = ((f m).bind fun d m => match resolve m (rd m i) ps, s m with
  | some (p, .obj .own .lst xs), some (.int k) => if down (rd m i) p = true then match ixN xs.length k with
      | some j => .ok .nx (wr m i (dput (rd m i) p (.obj .own .lst (xs.set j d))))
      | none => .no
    else .no
  | _, _ => .no) := rfl
@[simp] theorem dSetA_ap (i : Nat) (ps : List Stp) (cs : List Nat) (a : Str) (f : M → R D) (m : M) : dSetA i ps cs a f m = ((f m).bind fun d m => match resolve m (rd m i) ps with
  | some (p, .obj .own (.ins c ns) ds) => if down (rd m i) p = true ∧ cs.contains c = true ∧ ns.length < 1000 ∧ ns.length = ds.length then .ok .nx (wr m i (dput (rd m i) p (.obj .own (.ins c (putN a ns ds d).1) (putN a ns ds d).2))) else .no
  | _ => .no) := rfl
@[simp] theorem dAug_ap (i : Nat) (op : D → D → Option D) (s : SF) (m : M) : dAug i op s m = (match toSc (rd m i), s m with
  | some x, some y => match op x y with
    | some z => if i < m.sl.length then .ok .nx (setS m i z) else .no
    | none => .no
  | _, _ => .no) := rfl
@[simp] theorem dCall_ap (f : List D → RC) (as : List Ar) (m : M) : dCall f as m = ((dArgs as m).bind fun ds m => match takeL as ds m with
  | none => .no
  | some (ds, m) => match f ds with
    | .ok d ds => .ok d (putL as ds m)
    | .ex c n ds => .ex c n (putL as ds m)
    | .no => .no) := rfl
@[simp] theorem dLc_ap (it : M → R Itr) (g : TF) (t : M → R Bool) (f : M → R D) (js : List Nat) (m : M) : dLc it g t f js m = ((it m).bind fun w m => match clr js m with
  | none => .no
  | some (m, old) => (quiet (loopC g t f js w.items [] m)).bind fun ds m => if allVal js m = true then .ok (.obj .own .lst ds) (rst js old m) else .no) := rfl
@[simp] theorem tYesD_ap (m : M) : tYesD m = (.ok true m) := rfl
@[simp] theorem pLd_ap (i : Nat) (ps : List Stp) (m : M) : pLd i ps m = (match resolve m (rd m i) ps with
  | some (_, x) => if isAbs x then none else some x
  | none => none) := rfl
@[simp] theorem sS_ap (s : SF) (m : M) : sS s m = ((s m).bind toSc) := rfl
@[simp] theorem pOp_ap (op : List D → Option D) (fs : List SF) (m : M) : pOp op fs m = ((pargs fs m).bind op) := rfl
@[simp] theorem dP_ap (op : List D → Option D) (fs : List SF) (m : M) : dP op fs m = (ofO ((pargs fs m).bind op) m) := rfl
@[simp] theorem dP2_ap (op : D → D → Option D) (f g : SF) (m : M) : dP2 op f g m = (ofO (sBin op f g m) m) := rfl
theorem loopF_inv {g : TF} {b : M → R Fl} (Inv : Nat → M → Prop) (items : List D) (h : ∀ (i : Nat) (d : D) (m : M), items[i]? = some d → Inv i m → ∃ m1 m2, g d m = some m1 ∧ b m1 = .ok .nx m2 ∧ Inv (i + 1) m2) : ∀ (m : M), Inv 0 m → ∃ m', loopF g b items m = .ok .nx m' ∧ Inv items.length m' := by
  suffices ∀ (k : Nat) (rest : List D) (m : M), (∀ (i : Nat) (d : D), rest[i]? = some d → items[k + i]? = some d) → Inv k m → ∃ m', loopF g b rest m = .ok .nx m' ∧ Inv (k + rest.length) m' by
    intro m h0
    obtain ⟨m', h1, h2⟩ := this 0 items m (fun i d e => by simpa using e) h0
    exact ⟨m', h1, by simpa using h2⟩
  intro k rest
  induction rest generalizing k with
  | nil => intro m _ h0; exact ⟨m, rfl, h0⟩
  | cons d ds ih =>
    intro m hr h0
    obtain ⟨m1, m2, e1, e2, h2⟩ := h k d m (hr 0 d rfl) h0
    obtain ⟨m', e3, h3⟩ := ih (k + 1) m2 (fun i d' e => by have := hr (i + 1) d' (by simpa using e); rwa [show k + 1 + i = k + (i + 1) by omega]) h2
    refine ⟨m', ?_, by rw [List.length_cons, show k + (ds.length + 1) = k + 1 + ds.length by omega]; exact h3⟩
    unfold loopF
    rw [e1]
    simp only [e2, R.bind]
    exact e3
/-- the same over a range -/
theorem loopR_inv {g : TF} {b : M → R Fl} {lo c : Int} {n : Nat} (Inv : Nat → M → Prop) (h : ∀ (i : Nat) (m : M), i < n → Inv i m → ∃ m1 m2, g (.int (lo + (i : Int) * c)) m = some m1 ∧ b m1 = .ok .nx m2 ∧ Inv (i + 1) m2) (m : M) (h0 : Inv 0 m) : ∃ m', loopF g b (ilist lo c n) m = .ok .nx m' ∧ Inv n m' := by
  obtain ⟨m', h1, h2⟩ := loopF_inv Inv (ilist lo c n) (fun i d m hd hi => by obtain ⟨h3, rfl⟩ := ilist_at hd; exact h i m h3 hi) m h0
  exact ⟨m', h1, by rwa [ilist_len] at h2⟩
end Rf
namespace Rf
open PySem L2
/-! slices -/
def pI : Option SF → M → Option (Option Int)
  | none, _ => some none
  | some s, m => match s m with
    | some (.int i) => some (some i)
    | _ => none
def tPo (K : PySem.W.Frag) (cl : Nat → Addr) (s : Option SF) : TO := fun σ H Q => ∃ (φ : Type) (fd : φ → D) (fv : φ → V) (F : Hp) (m : M) (lv : List V), Rel K cl fd fv F H σ m lv ∧ ∃ i, pI s m = some i ∧ Q i H
def cutD {α : Type} (xs : List α) (lo hi : Option Int) : List α := (xs.drop (HT.sIx xs.length 0 lo)).take (HT.sIx xs.length xs.length hi - HT.sIx xs.length 0 lo)
def oSl (x : D) (lo hi : Option Int) : Option D := match x with
  | .obj _ .lst ds => if ds.all isSh then some (.obj .own .lst (cutD ds lo hi)) else none
  | .obj _ .tup ds => if ds.all isSh = true ∧ ¬ (HT.sIx ds.length 0 lo = 0 ∧ HT.sIx ds.length ds.length hi = ds.length) then some (.obj .own .tup (cutD ds lo hi)) else none
  | _ => none
def oSlS (x : D) (lo hi : Option Int) : Option D := match x with
  | .str z => if z.length ≤ sizeLine then some (.str (cutS z lo hi)) else none
  | _ => none
def dSl (f : SF) (a b : Option SF) : M → R D := fun m => ofO ((f m).bind fun x => (pI a m).bind fun lo => (pI b m).bind fun hi => oSl x lo hi) m
def sSl (f : SF) (a b : Option SF) : SF := fun m => (f m).bind fun x => (pI a m).bind fun lo => (pI b m).bind fun hi => oSlS x lo hi
section
variable {X : Cx} {cl : Nat → Addr} {xc : XC} {W : WX} {e l h : Expr} {lo hi : Option Expr} {pos p2 : Pos} {f s : SF} {a b : Option SF}
abbrev POs (X : Cx) (cl : Nat → Addr) (e : Option Expr) (s : Option SF) : Prop := PO X e (tPo X.K cl s)
theorem po_imp {e : Option Expr} {t t' : TO} (h : PO X e t) (i : ∀ σ H Q, t' σ H Q → t σ H Q) : PO X e t' := ⟨fun pins s σ H Q I q => h.run pins s σ H Q I (i σ H Q q)⟩
theorem po_n : POs X cl none none := po_imp po_none fun σ H Q ⟨φ, fd, fv, F, m, lv, r, i, e, q⟩ => by cases e; exact q
theorem po_s (hl : PEs X cl l s) : POs X cl (some l) (some s) := po_imp (po_some hl) fun σ H Q ⟨φ, fd, fv, F, m, lv, r, i, e, q⟩ => by
  have e : (match s m with
    | some (.int i) => some (some i)
    | _ => none) = some i := e
  split at e
  · rename_i k ek
    cases e
    exact ⟨φ, fd, fv, F, m, lv, r, .int k, ek, rfl, fun v hv => ⟨k, hv, q⟩⟩
  · cases e
theorem cutD_V (xs : List V) (lo hi : Option Int) : cutV xs lo hi = cutD xs lo hi := rfl
theorem Reps.cut {K : PySem.W.Frag} {F H : Hp} {ds : List D} {vs : List V} (r : Reps K cl F H ds vs []) (lo hi : Option Int) : Reps K cl F H (cutD ds lo hi) (cutD vs lo hi) [] := by
  unfold cutD
  rw [r.len]
  exact (r.drop _).take _
theorem d_slW (he : PEp X cl e f) (hl : POs X cl lo a) (hh : POs X cl hi b) : PEd X cl xc W (.Subscript e (.Slice lo hi none p2) pos) (dSl f a b) :=
  pe_imp (pe_slice (sl_list.or sl_tup) he hl hh) fun σ H Q ⟨φ, fd, fv, F, m, lv, r, q⟩ => by
    unfold dSl at q
    cases e1 : f m with
    | none => simp [e1, ofO] at q
    | some x =>
      cases e2 : pI a m with
      | none => simp [e1, e2, ofO] at q
      | some i =>
        cases e3 : pI b m with
        | none => simp [e1, e2, e3, ofO] at q
        | some j =>
          cases e4 : oSl x i j with
          | none => simp [e1, e2, e3, e4, ofO] at q
          | some z =>
            simp only [e1, e2, e3, e4, ofO, Option.bind_some] at q
            refine ⟨φ, fd, fv, F, m, lv, r, x, e1, fun v fx rx => ⟨φ, fd, fv, F, m, lv, r, i, e2, φ, fd, fv, F, m, lv, r, j, e3, ?_⟩⟩
            unfold oSl at e4
            split at e4
            · rename_i o ds
              split at e4
              · rename_i hs
                cases e4
                obtain ⟨p, us, rfl, kr, ea, _⟩ := rx.opn r.wf.ex
                exact .inl ⟨p, us, rfl, kr, fun l hl => q F _ _ (r.push (r.wf.newSh ((ea.reps hs).cut i j) hl rfl))⟩
              · cases e4
            · rename_i o ds
              split at e4
              · rename_i hs
                cases e4
                obtain ⟨p, us, rfl, kr, ea, _⟩ := rx.opn r.wf.ex
                exact .inr ⟨p, us, rfl, kr, by rw [ea.len]; exact hs.2, fun l hl => q F _ _ (r.push (r.wf.newSh ((ea.reps hs.1).cut i j) hl rfl))⟩
              · cases e4
            · cases e4
theorem s_sl (he : PEs X cl e f) (hl : POs X cl lo a) (hh : POs X cl hi b) : PEs X cl (.Subscript e (.Slice lo hi none p2) pos) (sSl f a b) :=
  pe_imp (pe_slice sl_str he hl hh) fun σ H Q ⟨φ, fd, fv, F, m, lv, r, d, ed, hd, q⟩ => by
    unfold sSl at ed
    cases e1 : f m with
    | none => simp [e1] at ed
    | some x =>
      cases e2 : pI a m with
      | none => simp [e1, e2] at ed
      | some i =>
        cases e3 : pI b m with
        | none => simp [e1, e2, e3] at ed
        | some j =>
          simp only [e1, e2, e3, Option.bind_some] at ed
          unfold oSlS at ed
          split at ed
          · rename_i z
            split at ed
            · rename_i hz
              cases ed
              refine ⟨φ, fd, fv, F, m, lv, r, .str z, e1, rfl, fun v hv => ⟨φ, fd, fv, F, m, lv, r, i, e2, φ, fd, fv, F, m, lv, r, j, e3, ?_⟩⟩
              have hv : v = .str z := hv
              subst hv
              exact ⟨z, rfl, hz, q _ rfl⟩
            · cases ed
          · cases ed
end
@[simp] theorem pI_n (m : M) : pI none m = some none := rfl
@[simp] theorem pI_s (s : SF) (m : M) : pI (some s) m = (match s m with
  | some (.int i) => some (some i)
  | _ => none) := rfl
@[simp] theorem dSl_ap (f : SF) (a b : Option SF) (m : M) : dSl f a b m = ofO ((f m).bind fun x => (pI a m).bind fun lo => (pI b m).bind fun hi => oSl x lo hi) m := rfl
@[simp] theorem sSl_ap (f : SF) (a b : Option SF) (m : M) : sSl f a b m = ((f m).bind fun x => (pI a m).bind fun lo => (pI b m).bind fun hi => oSlS x lo hi) := rfl
/-! things of the module that stand for lists, tuples -/
mutual
def conB (K : PySem.W.Frag) : D → Value → Bool
  | .non, .none => true
  | .bl b, .bool c => b == c
  | .int i, .int j _ => decide (i = j)
  | .str x, .str y _ => decide (x = y)
  | .obj .con .lst ds, .ref a => match K.lookup a with
    | some ⟨.type c, none, .seq its _, _⟩ => decide (c = "list") && (decide (its.size ≤ sizeLine) && conBs K ds its.toList)
    | _ => false
  | .obj .con .tup ds, .ref a => match K.lookup a with
    | some ⟨.type c, _, .seq its _, _⟩ => decide (c = "tuple") && (decide (its.size ≤ sizeLine) && conBs K ds its.toList)
    | _ => false
  | _, _ => false
def conBs (K : PySem.W.Frag) : List D → List Value → Bool
  | [], [] => true
  | d :: ds, u :: us => conB K d u && conBs K ds us
  | _, _ => false
end
def vU : Value → V
  | .none => .non
  | .bool b => .bl b
  | .int i _ => .int i
  | .str x _ => .str x
  | .ref a => .ref a
  | _ => .non
theorem band2 {a b : Bool} (h : (a && b) = true) : a = true ∧ b = true := by simpa using h
mutual
theorem con_rep {K : PySem.W.Frag} {cl : Nat → Addr} (F H : Hp) : ∀ (d : D) (u : Value), conB K d u = true → RelV (vU u) u ∧ Rep K cl F H d (vU u) []
  | .non, u, h => by cases u <;> first | exact ⟨rfl, rfl, rfl⟩ | cases h
  | .bl b, u, h => by cases u <;> first | (have e := eq_of_beq (show (_ == _) = true from h); subst e; exact ⟨rfl, rfl, rfl⟩) | cases h
  | .int i, u, h => by cases u <;> first | (have e : i = _ := of_decide_eq_true h; subst e; exact ⟨⟨_, rfl⟩, rfl, rfl⟩) | cases h
  | .str i, u, h => by cases u <;> first | (have e : i = _ := of_decide_eq_true h; subst e; exact ⟨⟨_, rfl⟩, rfl, rfl⟩) | cases h
  | .abs, u, h => by cases u <;> cases h
  | .obj .con .lst ds, u, h => by
    cases u with
    | ref a =>
      unfold conB at h
      split at h
      · rename_i c its n sl q
        obtain ⟨h1, h2⟩ := band2 h
        obtain ⟨h3, h4⟩ := band2 h2
        obtain ⟨g1, g2⟩ := con_reps (cl := cl) F H ds its.toList h4
        exact ⟨rfl, a, its.toList.map vU, [], rfl, ⟨.inr ⟨_, its, n, q, congrArg Value.type (of_decide_eq_true h1), rfl, rfl, of_decide_eq_true h3, g1⟩, rfl, rfl⟩, g2⟩
      · cases h
    | _ => cases h
  | .obj .con .tup ds, u, h => by
    cases u with
    | ref a =>
      unfold conB at h
      split at h
      · rename_i c od its n sl q
        obtain ⟨h1, h2⟩ := band2 h
        obtain ⟨h3, h4⟩ := band2 h2
        obtain ⟨g1, g2⟩ := con_reps (cl := cl) F H ds its.toList h4
        exact ⟨rfl, a, its.toList.map vU, [], rfl, ⟨.inr ⟨_, its, n, q, congrArg Value.type (of_decide_eq_true h1), rfl, of_decide_eq_true h3, g1⟩, rfl, rfl⟩, g2⟩
      · cases h
    | _ => cases h
  | .obj .con (.dic _) ds, u, h => by cases u <;> cases h
  | .obj .con (.dit _) ds, u, h => by cases u <;> cases h
  | .obj .con (.ins _ _) ds, u, h => by cases u <;> cases h
  | .obj .own _ ds, u, h => by cases u <;> cases h
  | .obj .shr _ ds, u, h => by cases u <;> cases h
theorem con_reps {K : PySem.W.Frag} {cl : Nat → Addr} (F H : Hp) : ∀ (ds : List D) (us : List Value), conBs K ds us = true → Vals (us.map vU) us ∧ Reps K cl F H ds (us.map vU) []
  | [], [], _ => ⟨.nil, rfl, rfl⟩
  | d :: ds, u :: us, h => by
    obtain ⟨h1, h2⟩ := band2 (show (conB K d u && conBs K ds us) = true from h)
    obtain ⟨g1, g2⟩ := con_rep (cl := cl) F H d u h1
    obtain ⟨g3, g4⟩ := con_reps (cl := cl) F H ds us h2
    exact ⟨.cons g1 g3, vU u, us.map vU, [], [], rfl, rfl, g2, g4⟩
  | [], _ :: _, h => by cases h
  | _ :: _, [], h => by cases h
end
/-- a name of the module stands for such a thing -/
structure Con (K : PySem.W.Frag) (mg : Str → Option Value) (x : Str) (d : D) : Prop where
  ex : ∃ u, mg x = some u ∧ conB K d u = true
def pC (d : D) : SF := fun _ => some d
@[simp] theorem pC_ap (d : D) (m : M) : pC d m = some d := rfl
section
variable {X : Cx} {cl : Nat → Addr} {xc : XC} {W : WX} {x : Str} {pos : Pos} {d : D} {a b : Expr} {f s : SF}
theorem d_k (h : Con X.K X.mg x d) (hg : X.env.kindOf x = some .globalImplicit := by kernel_rfl) (hd : (x == ("__debug__" : Str)) = false := by kernel_rfl) : PEd X cl xc W (.Name x pos) (dC d) := by
  obtain ⟨u, h1, h2⟩ := h
  exact pe_imp (pe_glob hg h1 (con_rep (K := X.K) (cl := cl) (fun _ => none) (fun _ => none) d u h2).1 hd) fun σ H Q ⟨φ, fd, fv, F, m, lv, r, q⟩ => q F H _ (r.push (r.wf.dup0 (con_rep F H d u h2).2))
theorem p_k (h : Con X.K X.mg x d) (hg : X.env.kindOf x = some .globalImplicit := by kernel_rfl) (hd : (x == ("__debug__" : Str)) = false := by kernel_rfl) : PEp X cl (.Name x pos) (pC d) := by
  obtain ⟨u, h1, h2⟩ := h
  exact pe_imp (pe_glob hg h1 (con_rep (K := X.K) (cl := cl) (fun _ => none) (fun _ => none) d u h2).1 hd) fun σ H Q ⟨φ, fd, fv, F, m, lv, r, d', e, q⟩ => by
    cases e
    exact q _ [] (con_rep F H d u h2).2
/-- an item that is a scalar, of a thing that is looked at -/
def oIxP : D → D → Option D
  | .obj _ .lst xs, .int i => (atI xs i).bind toSc
  | .obj _ .tup xs, .int i => (atI xs i).bind toSc
  | _, _ => none
theorem s_xP (ha : PEp X cl a f) (hb : PEs X cl b s) (hp : PlainIx b := by exact fun _ _ => by kernel_rfl) : PEs X cl (.Subscript a b pos) (sBin oIxP f s) :=
  pe_imp (pe_ix ix_seq ha hb hp) fun σ H Q ⟨φ, fd, fv, F, m, lv, r, d, e, hd, q⟩ => by
    obtain ⟨x, y, ex, ey, ez⟩ := sBin_some e
    unfold oIxP at ez
    split at ez
    · rename_i o xs i
      refine ⟨φ, fd, fv, F, m, lv, r, _, ex, fun v fx rx => ⟨φ, fd, fv, F, m, lv, r, _, ey, rfl, fun vy hy => ?_⟩⟩
      have hy : vy = .int i := hy
      subst hy
      obtain ⟨p, us, rfl, kr, ea, _⟩ := rx.opn r.wf.ex
      cases e1 : atI xs i with
      | none => rw [e1] at ez; cases ez
      | some y =>
        rw [e1] at ez
        obtain ⟨rfl, hsc⟩ := toSc_some (show toSc y = some d from ez)
        obtain ⟨j, hj, up⟩ := atI_map (ys := us) ea.len.symm e1
        obtain ⟨w, fw, hw, rw'⟩ := ea.get hj
        exact .inl ⟨p, us, i, w, rfl, rfl, kr, up w hw, q w (rw'.scal hsc)⟩
    · rename_i o xs i
      refine ⟨φ, fd, fv, F, m, lv, r, _, ex, fun v fx rx => ⟨φ, fd, fv, F, m, lv, r, _, ey, rfl, fun vy hy => ?_⟩⟩
      have hy : vy = .int i := hy
      subst hy
      obtain ⟨p, us, rfl, kr, ea, _⟩ := rx.opn r.wf.ex
      cases e1 : atI xs i with
      | none => rw [e1] at ez; cases ez
      | some y =>
        rw [e1] at ez
        obtain ⟨rfl, hsc⟩ := toSc_some (show toSc y = some d from ez)
        obtain ⟨j, hj, up⟩ := atI_map (ys := us) ea.len.symm e1
        obtain ⟨w, fw, hw, rw'⟩ := ea.get hj
        exact .inr (.inl ⟨p, us, i, w, rfl, rfl, kr, up w hw, q w (rw'.scal hsc)⟩)
    · cases ez
end
@[simp] theorem oIxP_l (o : Ow) (xs : List D) (i : Int) : oIxP (.obj o .lst xs) (.int i) = (atI xs i).bind toSc := rfl
@[simp] theorem oIxP_t (o : Ow) (xs : List D) (i : Int) : oIxP (.obj o .tup xs) (.int i) = (atI xs i).bind toSc := rfl
/-! the head's hook, with such things -/
abbrev CoL : Type := List (Str × D)
def conAll (K : PySem.W.Frag) (cs : CoL) : Bool := cs.all fun c => match PySem.W.nsIn K mainGlobals c.1 with
  | some (some u) => conB K c.2 u
  | _ => false
def obsR (n : Nat) (fa : List He.Fa) (fn : List He.DefD) (cs : CoL) (g : Addr → Option Obj) : Bool × He.AlD := (conAll (He.frG g (He.asD g n)) cs, He.obsD fa fn (He.frG g (He.asD g n)))
def hookR (n : Nat) (fa : List He.Fa) (fn : List He.DefD) (cs : CoL) : PySem.W.Hook where
  α := Bool × He.AlD
  obs := fun s => obsR n fa fn cs s.heap.get?
  val := fun _ => (true, He.valD fn)
  says := fun _ h => ∃ K : PySem.W.Frag, K.In h ∧ He.SaysD fa fn K ∧ conAll K cs = true
  of := fun _ _ e => ⟨_, He.frG_in, congrArg Prod.snd e, congrArg Prod.fst e⟩
  keeps := fun _ _ _ ⟨K, hK, c⟩ k => ⟨K, PySem.W.Frag.In.keeps hK k, c⟩
theorem obsR_eq {n : Nat} {fa : List He.Fa} {fn : List He.DefD} {cs : CoL} {g : Addr → Option Obj} {s : Shared} (h : ∀ a, g a = s.heap.get? a) : obsR n fa fn cs g = (hookR n fa fn cs).obs s := by
  have e : g = s.heap.get? := funext h
  subst e
  rfl
theorem con_at {K : PySem.W.Frag} {cs : CoL} {h : Heap} {mg : Str → Option Value} (X : K.In h) (G : h.Ns mainGlobals mg) (c : conAll K cs = true) (i : Nat) {x : Str} {d : D} (e : cs[i]? = some (x, d) := by rfl) : Con K mg x d := by
  have q := List.all_eq_true.mp c _ (List.mem_of_getElem? e)
  simp only at q
  split at q
  · rename_i u hu
    exact ⟨u, PySem.W.mg_of X G hu, q⟩
  · cases q
end Rf
namespace Rf
open PySem L2
/-! the plain side: places in rows -/
@[simp] theorem ixN_zero (n : Nat) : ixN n 0 = if 0 < n then some 0 else none := by unfold ixN; by_cases h : 0 < n <;> simp [h]
@[simp] theorem ixN_one (n : Nat) : ixN n 1 = if 1 < n then some 1 else none := by
  unfold ixN
  by_cases h : 1 < n
  · rw [if_pos (by decide), if_pos (by omega), if_pos h]; rfl
  · rw [if_pos (by decide), if_neg (by omega), if_neg h]
@[simp] theorem ixN_lit (n i : Nat) : ixN n (no_index (OfNat.ofNat i) : Int) = if i < n then some i else none := by
  show ixN n (i : Int) = _
  unfold ixN
  by_cases h : i < n
  · rw [if_pos (by omega), if_pos (by omega), if_pos h]; simp
  · rw [if_pos (by omega), if_neg (by omega), if_neg h]
theorem ixN_nat {n i : Nat} (h : i < n) : ixN n (i : Int) = some i := by
  unfold ixN
  rw [if_pos (by omega), if_pos (by omega)]
  simp
theorem ixN_pos {n : Nat} {i : Int} (h0 : 0 ≤ i) (h : i < n) : ixN n i = some i.toNat := by
  unfold ixN
  rw [if_pos h0, if_pos h]
@[simp] theorem atI_ap {α : Type} (xs : List α) (i : Int) : atI xs i = (ixN xs.length i).bind fun j => xs[j]? := rfl
@[simp] theorem oIx_l (o : Ow) (xs : List D) (i : Int) : oIx (.obj o .lst xs) (.int i) = atI (frzs xs) i := rfl
@[simp] theorem oIx_t (o : Ow) (xs : List D) (i : Int) : oIx (.obj o .tup xs) (.int i) = atI (frzs xs) i := rfl
theorem dSeq_nx {f g : M → R Fl} {m m' : M} (h : f m = .ok .nx m') : dSeq f g m = g m' := by
  show (f m).bind _ = _
  rw [h]
  rfl
end Rf
namespace Rf
open PySem L2
section
variable {P : Program} {w : World} {K : PySem.W.Frag} {mg : Str → Option Value} {base : Heap} {cl : Nat → Addr} {xc : XC}
/-- a def that is not said to end: the ground of a recursion -/
theorem fo_no {x qual : Str} {params : Arguments} {body : List Stmt} {scope : Scope} {kws : List (Str × V)} {f : Addr} {fd : FuncData} {ps : List Str} {k : Nat} (F : FunD K x qual params body scope [] kws f fd) (hm : mg x = some (.ref f))
    (hbi : ∀ (kV doc pm : Value) (an : Option Addr) (cdv ct : Value) (us : List Value), us.length = ps.length → bindArgs (PySem.W.fnOf x qual params body scope .none kV doc pm an cdv ct) ⟨us, []⟩ = pure (ps.zip us)) :
    Fo P w K mg base cl xc k x ps.length (fun _ => .no) :=
  ⟨f, fd, ps, rfl, hm, ⟨fun vs H Q E h => by obtain ⟨_, _, _, _, _, h, _⟩ := h; exact h, fun A outer s H args us vs Q E _ _ _ _ h => by obtain ⟨_, _, _, _, _, _, _, _, h⟩ := h; exact h.elim⟩, F.kp, F.bindsN hbi⟩
end
section
variable {X : Cx} {cl : Nat → Addr} {xc : XC} {W : WX} {pos p : Pos} {x : Str}
theorem d_call0 {j k : Nat} {fn : List D → RC} (tk : Takes X W) (G : Fo X.prog X.w X.K X.mg X.base cl xc j x 0 fn) (hr : Room k X.A) (hjk : j ≤ k := by decide) (hg : X.env.kindOf x = some .globalImplicit := by kernel_rfl) (hdb : (x == ("__debug__" : Str)) = false := by kernel_rfl) : PEd X cl xc W (.Call (.Name x p) [] [] pos) (dCall fn []) := by
  obtain ⟨fa, fdt, ps, hps, hm, G, hk, hb⟩ := G
  refine ⟨fun pins s σ H Q I h => ?_⟩
  refine wpAny_Call_Name_kw (ld_glob I hg hm ?_ hdb)
  obtain ⟨φ, fd, fv, F, m, lv, r, q⟩ := h
  exact PySem.W.callWith_K0 I.kIn hk (run_fnSD (us := []) (E := fun σ c d H' => W c d σ H') G (hr.mono hjk) hb .nil (passAt tk σ) I .nil (call_post (as := []) (ds := []) (vs := []) rfl rfl (r.tops r.wf.noTops) (fun j i h => by simp at h) q))
end
end Rf
namespace Rf
open PySem L2
/-! the plain side: rows of scalars, looks at kinds -/
@[simp] theorem isSh_int (i : Int) : isSh (.int i) = true := rfl
@[simp] theorem isSh_str (i : Str) : isSh (.str i) = true := rfl
@[simp] theorem isSh_bl (i : Bool) : isSh (.bl i) = true := rfl
@[simp] theorem isSh_non : isSh .non = true := rfl
@[simp] theorem isSh_shr (k : Kd) (ds : List D) : isSh (.obj .shr k ds) = true := rfl
@[simp] theorem isSh_con (k : Kd) (ds : List D) : isSh (.obj .con k ds) = true := rfl
@[simp] theorem isSh_ints (ns : List Int) : (ns.map D.int).all isSh = true := by simp
theorem cutD_map {α β : Type} (f : α → β) (xs : List α) (lo hi : Option Int) : cutD (xs.map f) lo hi = (cutD xs lo hi).map f := by
  unfold cutD
  rw [List.length_map, ← List.map_drop, ← List.map_take]
@[simp] theorem oSl_ints (o : Ow) (ns : List Int) (lo hi : Option Int) : oSl (.obj o .lst (ns.map D.int)) lo hi = some (.obj .own .lst ((cutD ns lo hi).map D.int)) := by
  show (if (ns.map D.int).all isSh = true then some (D.obj Ow.own Kd.lst (cutD (ns.map D.int) lo hi)) else none) = _
  rw [if_pos (isSh_ints ns), cutD_map]
@[simp] theorem wList_ints (o : Ow) (ns : List Int) : wList [.obj o .lst (ns.map D.int)] = some (.obj .own .lst (ns.map D.int)) := by
  show (if (ns.map D.int).all isSh = true then some (D.obj Ow.own Kd.lst (ns.map D.int)) else none) = _
  rw [if_pos (isSh_ints ns)]
@[simp] theorem down_nil' (o : Ow) (ds : List D) : down (.obj o .lst ds) [] = true := by unfold down; rfl
@[simp] theorem dput_nil' (d e : D) : dput d [] e = e := by unfold dput; rfl
theorem runB_m {np ns : Nat} {b : M → R Fl} {as : List D} (h : as.length = np) : runB np ns b as = rcOf (b (m0 np ns as)) := if_pos h
end Rf
namespace Rf
open PySem L2
/-! the plain side: kinds; data that is compared -/
@[simp] theorem isi_int_non : bIsi "int" .non = some (.bl false) := by kernel_rfl
@[simp] theorem isi_int_bl (b : Bool) : bIsi "int" (.bl b) = some (.bl true) := by kernel_rfl
@[simp] theorem isi_int_int (i : Int) : bIsi "int" (.int i) = some (.bl true) := by kernel_rfl
@[simp] theorem isi_int_str (s : Str) : bIsi "int" (.str s) = some (.bl false) := by kernel_rfl
@[simp] theorem isi_int_lst (o : Ow) (ds : List D) : bIsi "int" (.obj o .lst ds) = some (.bl false) := by cases o <;> kernel_rfl
@[simp] theorem isi_int_tup (o : Ow) (ds : List D) : bIsi "int" (.obj o .tup ds) = some (.bl false) := by cases o <;> kernel_rfl
@[simp] theorem isi_bool_non : bIsi "bool" .non = some (.bl false) := by kernel_rfl
@[simp] theorem isi_bool_bl (b : Bool) : bIsi "bool" (.bl b) = some (.bl true) := by kernel_rfl
@[simp] theorem isi_bool_int (i : Int) : bIsi "bool" (.int i) = some (.bl false) := by kernel_rfl
@[simp] theorem isi_bool_str (s : Str) : bIsi "bool" (.str s) = some (.bl false) := by kernel_rfl
@[simp] theorem isi_bool_lst (o : Ow) (ds : List D) : bIsi "bool" (.obj o .lst ds) = some (.bl false) := by cases o <;> kernel_rfl
@[simp] theorem isi_bool_tup (o : Ow) (ds : List D) : bIsi "bool" (.obj o .tup ds) = some (.bl false) := by cases o <;> kernel_rfl
@[simp] theorem isi_str_non : bIsi "str" .non = some (.bl false) := by kernel_rfl
@[simp] theorem isi_str_bl (b : Bool) : bIsi "str" (.bl b) = some (.bl false) := by kernel_rfl
@[simp] theorem isi_str_int (i : Int) : bIsi "str" (.int i) = some (.bl false) := by kernel_rfl
@[simp] theorem isi_str_str (s : Str) : bIsi "str" (.str s) = some (.bl true) := by kernel_rfl
@[simp] theorem isi_str_lst (o : Ow) (ds : List D) : bIsi "str" (.obj o .lst ds) = some (.bl false) := by cases o <;> kernel_rfl
@[simp] theorem isi_str_tup (o : Ow) (ds : List D) : bIsi "str" (.obj o .tup ds) = some (.bl false) := by cases o <;> kernel_rfl
@[simp] theorem isi_list_non : bIsi "list" .non = some (.bl false) := by kernel_rfl
@[simp] theorem isi_list_bl (b : Bool) : bIsi "list" (.bl b) = some (.bl false) := by kernel_rfl
@[simp] theorem isi_list_int (i : Int) : bIsi "list" (.int i) = some (.bl false) := by kernel_rfl
@[simp] theorem isi_list_str (s : Str) : bIsi "list" (.str s) = some (.bl false) := by kernel_rfl
@[simp] theorem isi_list_lst (o : Ow) (ds : List D) : bIsi "list" (.obj o .lst ds) = some (.bl true) := by cases o <;> kernel_rfl
@[simp] theorem isi_list_tup (o : Ow) (ds : List D) : bIsi "list" (.obj o .tup ds) = some (.bl false) := by cases o <;> kernel_rfl
@[simp] theorem isi_tuple_non : bIsi "tuple" .non = some (.bl false) := by kernel_rfl
@[simp] theorem isi_tuple_bl (b : Bool) : bIsi "tuple" (.bl b) = some (.bl false) := by kernel_rfl
@[simp] theorem isi_tuple_int (i : Int) : bIsi "tuple" (.int i) = some (.bl false) := by kernel_rfl
@[simp] theorem isi_tuple_str (s : Str) : bIsi "tuple" (.str s) = some (.bl false) := by kernel_rfl
@[simp] theorem isi_tuple_lst (o : Ow) (ds : List D) : bIsi "tuple" (.obj o .lst ds) = some (.bl false) := by cases o <;> kernel_rfl
@[simp] theorem isi_tuple_tup (o : Ow) (ds : List D) : bIsi "tuple" (.obj o .tup ds) = some (.bl true) := by cases o <;> kernel_rfl
@[simp] theorem isi_dict_non : bIsi "dict" .non = some (.bl false) := by kernel_rfl
@[simp] theorem isi_dict_bl (b : Bool) : bIsi "dict" (.bl b) = some (.bl false) := by kernel_rfl
@[simp] theorem isi_dict_int (i : Int) : bIsi "dict" (.int i) = some (.bl false) := by kernel_rfl
@[simp] theorem isi_dict_str (s : Str) : bIsi "dict" (.str s) = some (.bl false) := by kernel_rfl
@[simp] theorem isi_dict_lst (o : Ow) (ds : List D) : bIsi "dict" (.obj o .lst ds) = some (.bl false) := by cases o <;> kernel_rfl
@[simp] theorem isi_dict_tup (o : Ow) (ds : List D) : bIsi "dict" (.obj o .tup ds) = some (.bl false) := by cases o <;> kernel_rfl
theorem dSeq_assoc (f g h : M → R Fl) : dSeq (dSeq f g) h = dSeq f (dSeq g h) := by
  funext m
  simp only [dSeq_ap]
  cases f m with
  | ok fl m => cases fl <;> rfl
  | ex c n m => rfl
  | no => rfl
theorem loopF_cons {g : TF} {b : M → R Fl} {d : D} {ds : List D} {m m1 m2 : M} (h1 : g d m = some m1) (h2 : b m1 = .ok .nx m2) : loopF g b (d :: ds) m = loopF g b ds m2 := by
  conv => lhs; unfold loopF
  rw [h1]
  simp only [h2, R.bind_ok]
theorem dFor_items {it : M → R Itr} {g : TF} {b : M → R Fl} {m m' : M} {w : Itr} (h : it m = .ok w m') : dFor it g b m = loopF g b w.items m' := by
  rw [dFor_ap, h]
  rfl
mutual
/-- data at rest: none, bools, ints, texts, lists and tuples of such, nobody's own -/
def pl : D → Bool
  | .non => true
  | .bl _ => true
  | .int _ => true
  | .str s => PyData.strOk s
  | .obj o .lst ds => decide (o ≠ .own) && decide (ds.length < 1152921504606846976) && pls ds
  | .obj o .tup ds => decide (o ≠ .own) && decide (ds.length < 1152921504606846976) && pls ds
  | _ => false
def pls : List D → Bool
  | [] => true
  | d :: ds => pl d && pls ds
end
mutual
def dep : D → Nat
  | .obj _ _ ds => deps ds + 1
  | _ => 0
def deps : List D → Nat
  | [] => 0
  | d :: ds => max (dep d) (deps ds)
end
mutual
/-- of one kind and alike -/
def same : D → D → Bool
  | a, .obj _ .lst ds => (match a with
    | .obj _ .lst cs => sames cs ds
    | _ => false)
  | a, .obj _ .tup ds => (match a with
    | .obj _ .tup cs => sames cs ds
    | _ => false)
  | a, .non => (match a with
    | .non => true
    | _ => false)
  | a, .bl b => (match a with
    | .bl c => decide (c = b)
    | _ => false)
  | a, .int b => (match a with
    | .int c => decide (c = b)
    | _ => false)
  | a, .str b => (match a with
    | .str c => decide (c = b)
    | _ => false)
  | _, _ => false
def sames : List D → List D → Bool
  | [], ds => (match ds with
    | [] => true
    | _ => false)
  | c :: cs, ds => (match ds with
    | d :: ds => same c d && sames cs ds
    | [] => false)
end
end Rf
namespace Rf
open PySem L2
/-! methods of texts and lists that change nothing -/
structure MeP (K : PySem.W.Frag) (cl : Nat → Addr) (T : String) (r : V → List V → Hp → VK → Prop) (op : D → List D → Option D) : Prop where
  ty : ∀ (F H : Hp) (x : D) (xs : List D) (vx : V) (fx : List Addr) (z : D), Ex F H → op x xs = some z → Rep K cl F H x vx fx → tyV K T vx H
  ok : ∀ (F H : Hp) (x : D) (xs : List D) (vx : V) (vs : List V) (fx : List Addr) (z : D) (Q : VK), Ex F H → op x xs = some z → Rep K cl F H x vx fx → Each K cl F H xs vs → isSc z = true ∧ ((∀ v, Scal z v → Q v H) → r vx vs H Q)
def mOp (op : D → List D → Option D) (f : SF) (fs : List SF) : SF := fun m => (f m).bind fun x => (pargs fs m).bind fun xs => op x xs
@[simp] theorem mOp_ap (op : D → List D → Option D) (f : SF) (fs : List SF) (m : M) : mOp op f fs m = ((f m).bind fun x => (pargs fs m).bind fun xs => op x xs) := rfl
section
variable {X : Cx} {cl : Nat → Addr} {xc : XC} {W : WX} {o e : Expr} {es : List Expr} {f : SF} {fs : List SF} {name : Str} {apos cpos : Pos} {T id : String}
structure MeB (X : Cx) (cl : Nat → Addr) (T : String) (name : Str) (op : D → List D → Option D) : Prop where
  ex : ∃ id r, PlainAttrs T ∧ Slot T name id ∧ typeOf (.builtin id) = pure (.type "method_descriptor") ∧ MtR X id r ∧ MeP X.K cl T r op
theorem s_m {op : D → List D → Option D} (h : MeB X cl T name op) (ho : PEp X cl o f) (ha : PAp X cl (e :: es) fs)
    (hbase : attributeBase o name X.env (eval o X.env) = eval o X.env := by kernel_rfl)
    (hfew : ((backTo cpos (starEach (e :: es) X.env)).all (fun x => !x.1) && (backToKw cpos (keywordEach [] X.env)).all (fun x => x.1.isSome) && decide ((e :: es).length + ([] : List Keyword).length + (if ([] : List Keyword).isEmpty then 0 else 1) < 30)) = true := by kernel_rfl)
    (hline : (apos.endLine == cpos.line) = true := by kernel_rfl) (hs : starEach (e :: es) X.env = (false, eval e X.env) :: starEach es X.env := by kernel_rfl) (hplain : (backTo cpos (starEach es X.env)).any (·.1) = false := by kernel_rfl) :
    PEs X cl (.Call (.Attribute o name apos) (e :: es) [] cpos) (mOp op f fs) := by
  obtain ⟨id, r, h1, h2, h3, h4, h5⟩ := h
  refine pe_imp (pe_bm h1 h2 h3 h4 ho ha hbase hfew hline hs hplain) fun σ H Q ⟨φ, fd, fv, F, m, lv, rl, d, e, hd, q⟩ => ?_
  unfold mOp at e
  cases e1 : f m with
  | none => rw [e1] at e; cases e
  | some x =>
    cases e2 : pargs fs m with
    | none => rw [e1, e2] at e; cases e
    | some xs =>
      rw [e1, e2] at e
      have e : op x xs = some d := e
      exact ⟨φ, fd, fv, F, m, lv, rl, x, e1, fun v fx rx => ⟨h5.ty F H x xs v fx d rl.wf.ex e rx, φ, fd, fv, F, m, lv, rl, xs, e2, fun vs ev => (h5.ok F H x xs v vs fx d Q rl.wf.ex e rx ev).2 q⟩⟩
end
/-! the methods -/
def mSIndex : D → List D → Option D
  | .str a, [.str b] => match Builtin.Str.occurrences a b 0 a.length 1 with
    | i :: _ => some (.int (i : Nat))
    | [] => none
  | _, _ => none
def idxE (x : D) : List D → Option Nat
  | [] => none
  | d :: ds => (memE.eqE d x).bind fun b => if b = true then (if (memE x ds).isSome then some 0 else none) else (idxE x ds).map (· + 1)
def mIndex : D → List D → Option D
  | .obj _ .lst ds, [x] => if isSc x = true then (idxE x ds).map fun j => .int (j : Nat) else none
  | _, _ => none
def mIndexD : D → List D → Option D
  | .obj o .lst ds, [x] => (pdS x).bind fun d => (pdS (.obj o .lst ds)).bind fun l => match l with
    | .list es => (es.findIdx? fun z => PyData.eqv z d).map fun j => .int (j : Nat)
    | _ => none
  | _, _ => none
def mCount : D → List D → Option D
  | .obj _ .lst ds, [.int k] => (intsD ds).map fun ns => .int (ns.count k : Nat)
  | _, _ => none
section
variable {K : PySem.W.Frag} {cl : Nat → Addr}
theorem m_sindex : MeP K cl "str" (fun x xs H Q => ∃ a b i rest, x = .str a ∧ xs = [.str b] ∧ Builtin.Str.occurrences a b 0 a.length 1 = i :: rest ∧ Q (.int (i : Nat)) H) mSIndex := by
  refine ⟨fun F H x xs vx fx z ex e r => ?_, fun F H x xs vx vs fx z Q ex e r ev => ?_⟩
  · unfold mSIndex at e
    split at e
    · obtain ⟨rfl, _⟩ := r; rfl
    · cases e
  · unfold mSIndex at e
    split at e
    · rename_i a b
      split at e
      · rename_i i rest ho
        cases e
        obtain ⟨rfl, _⟩ := r
        obtain ⟨v, fv, rfl, rfl, _⟩ := each1 ev
        exact ⟨rfl, fun q => ⟨a, b, i, rest, rfl, rfl, ho, q _ rfl⟩⟩
      · cases e
    · cases e
theorem idxE_V {F H : Hp} {x : D} {u : V} {f2 : List Addr} (hx : isSc x = true) (rx : Rep K cl F H x u f2) : ∀ {ds : List D} {vs : List V} {j : Nat}, idxE x ds = some j → Each K cl F H ds vs → vs.all flatV = true ∧ ∃ z, vs[j]? = some z ∧ eqV z u = true ∧ ∀ (m : Nat) (z' : V), m < j → vs[m]? = some z' → eqV z' u = false
  | [], _, _, e, _ => by cases e
  | d :: ds, [], _, _, h => h.elim
  | d :: ds, v :: vs, j, e, h => by
    obtain ⟨⟨f1, r1⟩, h2⟩ := h
    cases e1 : memE.eqE d x with
    | none => simp [idxE, e1] at e
    | some b =>
      obtain ⟨q1, q2, q3⟩ := eqE_V hx e1 r1 rx
      cases b with
      | true =>
        cases e2 : memE x ds with
        | none => simp [idxE, e1, e2] at e
        | some c =>
          simp [idxE, e1, e2] at e
          subst e
          obtain ⟨q4, _⟩ := memE_V hx rx e2 h2
          exact ⟨by simp [q1, q4], v, rfl, q3, fun m z' hm => absurd hm (Nat.not_lt_zero _)⟩
      | false =>
        cases e2 : idxE x ds with
        | none => simp [idxE, e1, e2] at e
        | some k =>
          simp [idxE, e1, e2] at e
          subst e
          obtain ⟨g1, z, g2, g3, g4⟩ := idxE_V hx rx e2 h2
          refine ⟨by simp [q1, g1], z, by simpa using g2, g3, fun m z' hm hz => ?_⟩
          cases m with
          | zero => simp at hz; subst hz; exact q3
          | succ m => exact g4 m z' (by omega) (by simpa using hz)
theorem m_index : MeP K cl "list" (rIndex K) mIndex := by
  refine ⟨fun F H x xs vx fx z ex e r => ?_, fun F H x xs vx vs fx z Q ex e r ev => ?_⟩
  · unfold mIndex at e
    split at e
    · obtain ⟨a, us, rfl, kr, _⟩ := r.opn ex
      exact .inl ⟨rfl, us, kr⟩
    · cases e
  · unfold mIndex at e
    split at e
    · rename_i o ds x
      split at e
      · rename_i hx
        cases e1 : idxE x ds with
        | none => rw [e1] at e; cases e
        | some j =>
          rw [e1] at e; cases e
          obtain ⟨a, us, rfl, kr, ea, _⟩ := r.opn ex
          obtain ⟨v, fv, rfl, rx⟩ := each1 ev
          obtain ⟨g1, z, g2, g3, g4⟩ := idxE_V hx rx e1 ea
          have hf : flatV v = true := by cases x <;> first | (cases hx; done) | (obtain ⟨rfl, _⟩ := rx; rfl)
          exact ⟨rfl, fun q => ⟨a, us, v, j, z, rfl, rfl, kr, hf, g1, g2, g3, g4, q _ rfl⟩⟩
      · cases e
    · cases e
theorem m_indexD : MeP K cl "list" (rIndexD K) mIndexD := by
  refine ⟨fun F H x xs vx fx z ex e r => ?_, fun F H x xs vx vs fx z Q ex e r ev => ?_⟩
  · unfold mIndexD at e
    split at e
    · obtain ⟨a, us, rfl, kr, _⟩ := r.opn ex
      exact .inl ⟨rfl, us, kr⟩
    · cases e
  · unfold mIndexD at e
    split at e
    · rename_i o ds x
      cases e1 : pdS x with
      | none => rw [e1] at e; cases e
      | some d =>
        cases e2 : pdS (.obj o .lst ds) with
        | none => rw [e1, e2] at e; cases e
        | some l =>
          rw [e1, e2] at e
          simp only [Option.bind_some] at e
          split at e
          · rename_i es
            cases e3 : es.findIdx? fun z => PyData.eqv z d with
            | none => rw [e3] at e; cases e
            | some j =>
              rw [e3] at e; cases e
              obtain ⟨h1, h2⟩ := pdS_some e1
              obtain ⟨h3, h4⟩ := pdS_some e2
              obtain ⟨a, us, rfl, kr, ea, _⟩ := id (r.opn ex)
              obtain ⟨v, fv, rfl, rx⟩ := each1 ev
              obtain ⟨g1, g2, g3⟩ := List.findIdx?_eq_some_iff_getElem.mp e3
              exact ⟨rfl, fun q => ⟨a, v, d, es, j, es[j], rfl, rfl, dp_of ex _ r h3, dp_of ex _ rx h1, h4, h2, List.getElem?_eq_getElem g1, g2, fun m z' hm hz => by
                obtain ⟨hm', rfl⟩ := List.getElem?_eq_some_iff.mp hz
                simpa using g3 m hm, q _ rfl⟩⟩
          · cases e
    · cases e
theorem m_count : MeP K cl "list" (rCntI K) mCount := by
  refine ⟨fun F H x xs vx fx z ex e r => ?_, fun F H x xs vx vs fx z Q ex e r ev => ?_⟩
  · unfold mCount at e
    split at e
    · obtain ⟨a, us, rfl, kr, _⟩ := r.opn ex
      exact .inl ⟨rfl, us, kr⟩
    · cases e
  · unfold mCount at e
    split at e
    · rename_i o ds k
      cases e1 : intsD ds with
      | none => rw [e1] at e; cases e
      | some ns =>
        rw [e1] at e; cases e
        obtain ⟨a, us, rfl, kr, ea, _⟩ := r.opn ex
        obtain ⟨v, fv, rfl, rfl, _⟩ := each1 ev
        rw [ints_some e1] at ea
        have := ea.intD
        subst this
        exact ⟨rfl, fun q => ⟨a, ns, k, rfl, rfl, kr, q _ rfl⟩⟩
    · cases e
end
section
variable {X : Cx} {cl : Nat → Addr} {xc : XC} {W : WX} {o e : Expr} {s : SF} {f g : M → R D} {pos apos : Pos}
theorem mb_sindex : MeB X cl "str" "index" mSIndex := ⟨_, _, PySem.F.plainAttrs_str, PySem.F.slot_str_index, PySem.F.type_str_index, mt_sindex, m_sindex⟩
theorem mb_index : MeB X cl "list" "index" mIndex := ⟨_, _, PySem.F.plainAttrs_list, PySem.F.slot_list_index, PySem.F.type_list_index, mt_index, m_index⟩
theorem mb_indexD (hu : X.A.units + 65 < cLine) : MeB X cl "list" "index" mIndexD := ⟨_, _, PySem.F.plainAttrs_list, PySem.F.slot_list_index, PySem.F.type_list_index, mt_indexD hu, m_indexD⟩
theorem mb_count : MeB X cl "list" "count" mCount := ⟨_, _, PySem.F.plainAttrs_list, PySem.F.slot_list_count, PySem.F.type_list_count, mt_lcount, m_count⟩
/-! join -/
def strsD : List D → Option (List Str)
  | [] => some []
  | .str s :: ds => (strsD ds).map (s :: ·)
  | _ :: _ => none
theorem strsD_some : ∀ {ds : List D} {ys : List Str}, strsD ds = some ys → ds = ys.map D.str
  | [], _, h => by cases h; rfl
  | d :: ds, ys, h => by
    cases d with
    | str s =>
      cases e : strsD ds with
      | none => simp [strsD, e] at h
      | some r =>
        simp [strsD, e] at h
        subst h
        rw [strsD_some e]; rfl
    | _ => cases h
theorem Each.strs {K : PySem.W.Frag} {F H : Hp} : ∀ {ys : List Str} {vs : List V}, Each K cl F H (ys.map D.str) vs → vs = ys.map V.str
  | [], [], _ => rfl
  | n :: ns, v :: vs, e => by
    obtain ⟨⟨fx, r⟩, e2⟩ := e
    rw [List.map_cons, ← Each.strs e2, show v = V.str n from r.1]
  | [], _ :: _, e => e.elim
  | _ :: _, [], e => e.elim
def oJoin (a : Str) : D → Option D
  | .obj _ .lst ds => (strsD ds).bind fun ys => if (ys.map (·.length)).sum + ys.length * a.length ≤ 16777216 then some (.str (Txt.join a ys)) else none
  | _ => none
def dJoin (a : Str) (g : M → R D) : M → R D := fun m => (g m).bind fun y m => ofO (oJoin a y) m
@[simp] theorem dJoin_ap (a : Str) (g : M → R D) (m : M) : dJoin a g m = ((g m).bind fun y m => ofO (oJoin a y) m) := rfl
/-- a text that is written there, joining -/
theorem d_join {a : Str} (ho : PEs X cl o (sC (.str a))) (he : PEd X cl xc W e g) (hs : starEach [e] X.env = [(false, eval e X.env)] := by kernel_rfl) (hbase : attributeBase o "join" X.env (eval o X.env) = eval o X.env := by kernel_rfl) (hline : (apos.endLine == pos.line) = true := by kernel_rfl) :
    PEd X cl xc W (.Call (.Attribute o "join" apos) [e] [] pos) (dJoin a g) :=
  pe_imp (pe_join ho he hs hbase hline) fun σ H Q ⟨φ, fd, fv, F, m, lv, r, q⟩ => by
    refine ⟨φ, fd, fv, F, m, lv, r, .str a, rfl, rfl, fun v hv => ?_⟩
    have hv : v = .str a := hv
    subst hv
    refine ⟨⟨a, rfl⟩, φ, fd, fv, F, m, lv, r, ?_⟩
    unfold dJoin at q
    cases eg : g m with
    | no => simp only [eg, R.bind] at q
    | ex c n m1 => simp only [eg, R.bind] at q ⊢; exact q
    | ok y m1 =>
      simp only [eg, R.bind] at q ⊢
      intro F1 H1 vy r1
      unfold ofO at q
      cases eo : oJoin a y with
      | none => simp only [eo] at q
      | some z =>
        simp only [eo] at q
        unfold oJoin at eo
        split at eo
        · rename_i ow ds
          cases es : strsD ds with
          | none => rw [es] at eo; cases eo
          | some ys =>
            rw [es] at eo
            simp only [Option.bind_some] at eo
            split at eo
            · rename_i hle
              cases eo
              obtain ⟨f, rx⟩ := r1.wf.toTop.topRep
              obtain ⟨p, us, rfl, kr, ea, _⟩ := rx.opn r1.wf.ex
              rw [strsD_some es] at ea
              have := ea.strs
              subst this
              exact ⟨a, p, ys, rfl, rfl, .inl kr, hle, q F1 H1 _ (r1.pop.push (r1.pop.wf.dup0 (Scal.rep rfl)))⟩
            · cases eo
        · cases eo
end
end Rf
namespace Rf
open PySem L2
/-! methods of things that are reckoned -/
def dMt (op : D → List D → Option D) (f : M → R D) (fs : List SF) : M → R D := fun m => (f m).bind fun x m => ofO ((pargs fs m).bind fun xs => op x xs) m
@[simp] theorem dMt_ap (op : D → List D → Option D) (f : M → R D) (fs : List SF) (m : M) : dMt op f fs m = ((f m).bind fun x m => ofO ((pargs fs m).bind fun xs => op x xs) m) := rfl
/-- a slice of a thing that is reckoned: what is in it is shared -/
def oSlF (x : D) (lo hi : Option Int) : Option D := match x with
  | .obj _ .lst ds => some (.obj .own .lst (cutD (frzs ds) lo hi))
  | _ => none
def dSlF (f : M → R D) (a b : Option SF) : M → R D := fun m => (f m).bind fun x m => ofO ((pI a m).bind fun lo => (pI b m).bind fun hi => oSlF x lo hi) m
@[simp] theorem dSlF_ap (f : M → R D) (a b : Option SF) (m : M) : dSlF f a b m = ((f m).bind fun x m => ofO ((pI a m).bind fun lo => (pI b m).bind fun hi => oSlF x lo hi) m) := rfl
@[simp] theorem oSlF_l (o : Ow) (ds : List D) (lo hi : Option Int) : oSlF (.obj o .lst ds) lo hi = some (.obj .own .lst (cutD (frzs ds) lo hi)) := rfl
section
variable {X : Cx} {cl : Nat → Addr} {xc : XC} {W : WX} {o e : Expr} {es : List Expr} {f : M → R D} {fs : List SF} {name x : Str} {apos cpos pos p2 : Pos} {T : String} {lo hi : Option Expr} {a b : Option SF}
theorem d_mt {op : D → List D → Option D} (h : MeB X cl T name op) (ho : PEd X cl xc W o f) (ha : PAp X cl (e :: es) fs)
    (hbase : attributeBase o name X.env (eval o X.env) = eval o X.env := by kernel_rfl)
    (hfew : ((backTo cpos (starEach (e :: es) X.env)).all (fun x => !x.1) && (backToKw cpos (keywordEach [] X.env)).all (fun x => x.1.isSome) && decide ((e :: es).length + ([] : List Keyword).length + (if ([] : List Keyword).isEmpty then 0 else 1) < 30)) = true := by kernel_rfl)
    (hline : (apos.endLine == cpos.line) = true := by kernel_rfl) (hs : starEach (e :: es) X.env = (false, eval e X.env) :: starEach es X.env := by kernel_rfl) (hplain : (backTo cpos (starEach es X.env)).any (·.1) = false := by kernel_rfl) :
    PEd X cl xc W (.Call (.Attribute o name apos) (e :: es) [] cpos) (dMt op f fs) := by
  obtain ⟨id, r, h1, h2, h3, h4, h5⟩ := h
  refine pe_imp (pe_bm h1 h2 h3 h4 ho ha hbase hfew hline hs hplain) fun σ H Q q => tE_bind q fun φ fd fv F H1 m lv x d rl q => ?_
  unfold ofO at q
  cases e2 : pargs fs m with
  | none => simp [e2] at q
  | some xs =>
    cases e3 : op d xs with
    | none => simp [e2, e3] at q
    | some z =>
      simp only [e2, e3, Option.bind_some] at q
      obtain ⟨fx, rx⟩ := rl.wf.toTop.topRep
      refine ⟨h5.ty F H1 d xs x fx z rl.wf.ex e3 rx, _, _, _, F, m, lv, rl, xs, e2, fun vs ev => (h5.ok F H1 d xs x vs fx z Q rl.wf.ex e3 rx ev).2 fun v hv => q F H1 v (rl.pop.push (rl.pop.wf.dup0 hv.rep))⟩
theorem d_slF (he : PEd X cl xc W e f) (hl : POs X cl lo a) (hh : POs X cl hi b) : PEd X cl xc W (.Subscript e (.Slice lo hi none p2) pos) (dSlF f a b) :=
  pe_imp (pe_slice sl_list he hl hh) fun σ H Q q => tE_bind q fun φ fd fv F H1 m lv x d rl q => by
    unfold ofO at q
    cases e2 : pI a m with
    | none => simp [e2] at q
    | some i =>
      cases e3 : pI b m with
      | none => simp [e2, e3] at q
      | some j =>
        cases e4 : oSlF d i j with
        | none => simp [e2, e3, e4] at q
        | some z =>
          simp only [e2, e3, e4, Option.bind_some] at q
          refine ⟨_, _, _, F, m, lv, rl, i, e2, _, _, _, F, m, lv, rl, j, e3, ?_⟩
          unfold oSlF at e4
          split at e4
          · rename_i ow ds
            cases e4
            obtain ⟨F2, p, us, rfl, e5, w2, rs, kr, _⟩ := rl.wf.toTop.openTop
            exact ⟨p, us, rfl, kr, fun l hl => q F2 _ _ (rl.pop.push (w2.newSh (rs.cut i j) hl rfl))⟩
          · cases e4
theorem st_ex {p1 apos pos' : Pos} (i : Nat) (he : PEd X cl xc W e f) (hx : PEl X cl (.Name x p1) i [] := by exact l_v _)
    (hbase : attributeBase (.Name x p1) "extend" X.env (eval (.Name x p1) X.env) = eval (.Name x p1) X.env := by kernel_rfl)
    (hfew : ((backTo pos (starEach [e] X.env)).all (fun x => !x.1) && (backToKw pos (keywordEach [] X.env)).all (fun x => x.1.isSome) && decide ([e].length + ([] : List Keyword).length + (if ([] : List Keyword).isEmpty then 0 else 1) < 30)) = true := by kernel_rfl)
    (hline : (apos.endLine == pos.line) = true := by kernel_rfl) (hss : starEach [e] X.env = (false, eval e X.env) :: starEach [] X.env := by kernel_rfl) (hplain : (backTo pos (starEach [] X.env)).any (·.1) = false := by kernel_rfl)
    (hs : swapsWith (.Call (.Attribute (.Name x p1) "extend" apos) [e] [] pos) none pos'.line X.env = pure false := by kernel_rfl) :
    PSd X cl xc W (.Expr (.Call (.Attribute (.Name x p1) "extend" apos) [e] [] pos) pos') (dExt i f) :=
  st_ext hx he (fun to te h1 h2 => pe_bm PySem.F.plainAttrs_list PySem.F.slot_list_extend PySem.F.type_list_extend mt_extend h1 (pa_cons h2 pa_nil hss) hbase hfew hline hss hplain) hs
end
@[simp] theorem extS_ap (i : Nat) (o' : Ow) (ys : List D) (m : M) : extS i (.obj o' .lst ys) m = (match rd m i with
  | .obj .own .lst xs => if o' ≠ .con ∧ xs.length + ys.length ≤ sizeLine then .ok .nx (wr m i (.obj .own .lst (xs ++ frzs ys))) else .no
  | _ => .no) := by
  unfold extS
  cases rd m i with
  | obj o k ds => cases o <;> cases k <;> rfl
  | _ => rfl
end Rf
namespace Rf
open PySem L2
section
variable {X : Cx} {cl : Nat → Addr} {xc : XC} {W : WX} {a b : Expr} {f g : M → R D} {pos : Pos}
/-- a sign of a text, both reckoned -/
theorem d_xS (ha : PEd X cl xc W a f) (hb : PEd X cl xc W b g) (hp : PlainIx b := by exact fun _ _ => by kernel_rfl) : PEd X cl xc W (.Subscript a b pos) (dBin oIxS f g) :=
  pe_imp (pe_ix ix_str ha hb hp) fun σ H Q h => tE_bind h fun φ fd fv F H1 m lv x d r1 q => tE_next r1 q fun F2 H2 m2 y d2 r2 q2 => by
    unfold ofO at q2
    cases e : oIxS d d2 with
    | none => simp only [e] at q2
    | some z =>
      simp only [e] at q2
      exact (p_ixS.ops (K := X.K) (cl := cl) fun _ _ _ h => sc_ixS h) _ _ F2 H2 d d2 z x y Q e r2.wf.toTop2 fun F' H' v w => q2 F' H' v (r2.pop.pop.push w)
end
/-! texts as rows of code points -/
def tx (l : List Nat) : Str := ⟨l.toArray⟩
@[simp] theorem tx_len (l : List Nat) : (tx l).length = l.length := by simp [tx, PySem.Str.length]
@[simp] theorem tx_cps (l : List Nat) : (tx l).cps.toList = l := by simp [tx]
theorem tx_of (s : Str) : s = tx s.cps.toList := by simp [tx]
theorem tx_app (a b : List Nat) : tx a ++ tx b = tx (a ++ b) := by
  show PySem.Str.mk _ = _
  simp [tx]
@[simp] theorem oIxS_tx (l : List Nat) (i : Int) : oIxS (.str (tx l)) (.int i) = if l.length ≤ sizeLine then (atI l i).map fun c => .str (tx [c]) else none := by
  show (if (tx l).length ≤ sizeLine then (atI (tx l).cps.toList i).map fun c => D.str ⟨#[c]⟩ else none) = _
  rw [tx_len, tx_cps]
  rfl
theorem cutS_tx (l : List Nat) (lo hi : Option Int) : cutS (tx l) lo hi = tx (cutD l lo hi) := by
  unfold cutS cutD
  rw [tx_len, tx_cps]
  rfl
end Rf
namespace Rf
open PySem L2
/-! the plain side: comprehensions that keep the state -/
theorem loopC_map {g : TF} {t : M → R Bool} {f : M → R D} {js : List Nat} {m : M} (y : D → D) : ∀ (items acc : List D), (∀ d ∈ items, ∃ md, g d m = some md ∧ t md = .ok true md ∧ f md = .ok (y d) md ∧ isAbs (y d) = false ∧ allVal js md = true ∧ clrs js md = m) → acc.length + items.length ≤ sizeLine →
    loopC g t f js items acc m = .ok (acc ++ items.map y) m
  | [], acc, _, _ => by simp [loopC]
  | d :: ds, acc, h, hl => by
    obtain ⟨md, h1, h2, h3, h4, h5, h6⟩ := h d (by simp)
    rw [List.length_cons] at hl
    have ih := loopC_map (g := g) (t := t) (f := f) (js := js) (m := m) y ds (acc ++ [y d]) (fun d' hd => h d' (by simp [hd])) (by simp; omega)
    unfold loopC
    rw [h1]
    simp only [h2, h3, R.bind_ok, if_true]
    rw [if_pos ⟨by omega, h4, h5⟩, h6, ih]
    simp
@[simp] theorem bSum_l (o : Ow) (ds : List D) : bSum [.obj o .lst ds] = (intsD ds).map fun ns => .int ns.sum := rfl
@[simp] theorem bOrd_s (s : Str) : bOrd [.str s] = if s.length = 1 then some (.int (s.cps.getD 0 0 : Nat)) else none := rfl
/-- a row's weighted sum, the weights from w on -/
def ws : Int → List Nat → Int
  | _, [] => 0
  | w, c :: cs => w * c + ws (w + 1) cs
theorem ws_app : ∀ (a b : List Nat) (w : Int), ws w (a ++ b) = ws w a + ws (w + a.length) b
  | [], b, w => by simp [ws]
  | c :: cs, b, w => by
    show w * c + ws (w + 1) (cs ++ b) = (w * c + ws (w + 1) cs) + ws (w + ((cs.length + 1 : Nat) : Int)) b
    rw [ws_app cs b (w + 1)]
    have : w + 1 + (cs.length : Int) = w + ((cs.length + 1 : Nat) : Int) := by omega
    rw [this]
    exact (Int.add_assoc _ _ _).symm
theorem ws_take (l : List Nat) (i c : Nat) (h : l[i]? = some c) : ws 1 (l.take (i + 1)) = ws 1 (l.take i) + ((i : Int) + 1) * c := by
  obtain ⟨hi, rfl⟩ := List.getElem?_eq_some_iff.mp h
  rw [← List.take_append_getElem hi, ws_app, List.length_take, Nat.min_eq_left (by omega)]
  simp [ws]
  rw [Int.add_comm 1 (i : Int)]
theorem ws_range (l : List Nat) : ∀ n, n ≤ l.length → ((List.range n).map fun (k : Nat) => ((k : Int) + 1) * ((l[k]?.getD 0 : Nat) : Int)).sum = ws 1 (l.take n)
  | 0, _ => by simp [ws]
  | n + 1, h => by
    have hn : n < l.length := by omega
    rw [List.range_succ, List.map_append, List.sum_append, ws_range l n (by omega), ws_take l n l[n] (List.getElem?_eq_getElem hn)]
    simp [hn]
end Rf
namespace Rf
open PySem L2
/-- tuple(x): of a list anew, of a tuple at rest itself -/
def wTupT : List D → Option D
  | [.obj _ .lst ds] => if ds.all isSh then some (.obj .own .tup ds) else none
  | [.obj o .tup ds] => if o = .own then none else some (.obj o .tup ds)
  | _ => none
theorem w_tupT {K : PySem.W.Frag} {cl : Nat → Addr} : CaW K cl (fun xs H Q => ∃ p ys, xs = [V.ref p] ∧ ((SqL K H p ys ∧ ∀ l, H l = none → Q (.ref l) (upd H l (.tup ys))) ∨ (SqT K H p ys ∧ Q (.ref p) H))) wTupT := by
  intro ι rd rv F H ds vs z Q e w h k
  unfold wTupT at e
  split at e
  · obtain ⟨v, fx, rfl, r⟩ := each1 h
    split at e
    · rename_i hs
      cases e
      obtain ⟨a, us, rfl, kr, ea, _⟩ := r.opn w.ex
      exact ⟨a, us, rfl, .inl ⟨kr, fun l hl => k _ _ _ (w.newSh (ea.reps hs) hl rfl)⟩⟩
    · cases e
  · obtain ⟨v, fx, rfl, r⟩ := each1 h
    split at e
    · cases e
    · rename_i o ds ho
      cases e
      have hf := r.sh (by cases o <;> first | exact absurd rfl ho | rfl)
      subst hf
      obtain ⟨a, us, rfl, kr, ea, _⟩ := r.opn w.ex
      exact ⟨a, us, rfl, .inr ⟨kr, k _ _ _ (w.dup0 r)⟩⟩
  · cases e
@[simp] theorem wTupT_t (ds : List D) : wTupT [.obj .shr .tup ds] = some (.obj .shr .tup ds) := rfl
@[simp] theorem wTupT_l (o : Ow) (ds : List D) : wTupT [.obj o .lst ds] = if ds.all isSh then some (.obj .own .tup ds) else none := rfl
section
variable {X : Cx} {cl : Nat → Addr} {xc : XC} {W : WX} {o e : Expr} {es : List Expr} {f : M → R D} {ga : M → R (List D)} {name x : Str} {apos cpos pos p : Pos} {T : String}
theorem cn_tupT : CaN X cl (.type "tuple") wTupT := ⟨_, call_tuple_of, w_tupT⟩
/-- what a method is of does not change while its arguments are reckoned -/
structure MeT (X : Cx) (cl : Nat → Addr) (T : String) (name : Str) (tyo : D → Bool) (op : D → List D → Option D) : Prop where
  ex : ∃ id r, PlainAttrs T ∧ Slot T name id ∧ typeOf (.builtin id) = pure (.type "method_descriptor") ∧ MtR X id r ∧ MeP X.K cl T r op ∧ ∀ (F H : Hp) (d : D) (v : V) (fx : List Addr), Ex F H → tyo d = true → Rep X.K cl F H d v fx → tyV X.K T v H
def dMg (tyo : D → Bool) (op : D → List D → Option D) (f : M → R D) (g : M → R (List D)) : M → R D := fun m => (f m).bind fun x m => if tyo x = true then (g m).bind fun xs m => ofO (op x xs) m else .no
@[simp] theorem dMg_ap (tyo : D → Bool) (op : D → List D → Option D) (f : M → R D) (g : M → R (List D)) (m : M) : dMg tyo op f g m = ((f m).bind fun x m => if tyo x = true then (g m).bind fun xs m => ofO (op x xs) m else .no) := rfl
theorem d_mg {tyo : D → Bool} {op : D → List D → Option D} (h : MeT X cl T name tyo op) (ho : PEd X cl xc W o f) (ha : PAd X cl xc W (e :: es) ga)
    (hbase : attributeBase o name X.env (eval o X.env) = eval o X.env := by kernel_rfl)
    (hfew : ((backTo cpos (starEach (e :: es) X.env)).all (fun x => !x.1) && (backToKw cpos (keywordEach [] X.env)).all (fun x => x.1.isSome) && decide ((e :: es).length + ([] : List Keyword).length + (if ([] : List Keyword).isEmpty then 0 else 1) < 30)) = true := by kernel_rfl)
    (hline : (apos.endLine == cpos.line) = true := by kernel_rfl) (hs : starEach (e :: es) X.env = (false, eval e X.env) :: starEach es X.env := by kernel_rfl) (hplain : (backTo cpos (starEach es X.env)).any (·.1) = false := by kernel_rfl) :
    PEd X cl xc W (.Call (.Attribute o name apos) (e :: es) [] cpos) (dMg tyo op f ga) := by
  obtain ⟨id, r, h1, h2, h3, h4, h5, h6⟩ := h
  refine pe_imp (pe_bm h1 h2 h3 h4 ho ha hbase hfew hline hs hplain) fun σ H Q q => tE_bind q fun φ fd fv F H1 m lv x d rl q => ?_
  by_cases hd : tyo d = true
  case neg => rw [if_neg hd] at q; exact q.elim
  rw [if_pos hd] at q
  obtain ⟨fx, rx⟩ := rl.wf.toTop.topRep
  refine ⟨h6 F H1 d x fx rl.wf.ex hd rx, _, _, _, F, m, lv, rl, ?_⟩
  cases eg : ga m with
  | no => simp only [eg, R.bind] at q
  | ex c n m1 => simp only [eg, R.bind] at q ⊢; exact fun F' H' dx r' => q F' H' dx r'.pop
  | ok ds m1 =>
    simp only [eg, R.bind] at q ⊢
    intro F2 H2 vs hl r2
    unfold ofO at q
    cases eo : op d ds with
    | none => simp only [eo] at q
    | some z =>
      simp only [eo] at q
      obtain ⟨fx2, rx2⟩ := r2.untops.wf.toTop.topRep
      have hz := (CaP.cas (K := X.K) (cl := cl) (r := fun us H Q => r x us H Q) (op := fun ds => op d ds))
      obtain ⟨fp, g1, _⟩ := r2.wf.toTops.fp
      have ev : Each X.K cl F2 H2 ds vs := by
        have key : ∀ (xs : List D) (vs : List V), vs.length = xs.length → (∀ (i : Nat) (d : D) (v : V), xs[i]? = some d → vs[i]? = some v → ∃ fx, Rep X.K cl F2 H2 d v fx) → Each X.K cl F2 H2 xs vs := by
          intro xs
          induction xs with
          | nil => intro vs hl _; cases vs with
            | nil => trivial
            | cons v vs => cases hl
          | cons d ds ih => intro vs hl hh; cases vs with
            | nil => cases hl
            | cons v vs => exact ⟨hh 0 d v rfl rfl, ih vs (by simpa using hl) fun i d' v' e1 e2 => hh (i + 1) d' v' (by simpa using e1) (by simpa using e2)⟩
        refine key ds vs hl fun i d v e1 e2 => ⟨fp (.inl i), ?_⟩
        have := g1 (.inl i)
        simpa [pshs, e1, e2] using this
      exact (h5.ok F2 H2 d ds x vs fx2 z Q r2.wf.ex eo rx2 ev).2 fun v hv => q F2 H2 v (r2.untops.pop.push (r2.untops.pop.wf.dup0 hv.rep))
def isLs : D → Bool
  | .obj _ .lst _ => true
  | _ => false
@[simp] theorem isLs_l (o : Ow) (ds : List D) : isLs (.obj o .lst ds) = true := rfl
theorem ty_ls {K : PySem.W.Frag} {F H : Hp} {d : D} {v : V} {fx : List Addr} (ex : Ex F H) (h : isLs d = true) (r : Rep K cl F H d v fx) : tyV K "list" v H := by
  cases d with
  | obj o k ds =>
    cases k with
    | lst => obtain ⟨a, us, rfl, kr, _⟩ := r.opn ex; exact .inl ⟨rfl, us, kr⟩
    | _ => cases h
  | _ => cases h
theorem mt_ixD (hu : X.A.units + 65 < cLine) : MeT X cl "list" "index" isLs mIndexD := ⟨_, _, PySem.F.plainAttrs_list, PySem.F.slot_list_index, PySem.F.type_list_index, mt_indexD hu, m_indexD, fun _ _ _ _ _ => ty_ls⟩
theorem mt_ix : MeT X cl "list" "index" isLs mIndex := ⟨_, _, PySem.F.plainAttrs_list, PySem.F.slot_list_index, PySem.F.type_list_index, mt_index, m_index, fun _ _ _ _ _ => ty_ls⟩
end
end Rf
namespace Rf
open PySem L2
section
variable {X : Cx} {cl : Nat → Addr} {xc : XC} {W : WX} {a b : Expr} {elts : List Expr} {kk : Nat} {ga : M → R (List D)} {p pos tp : Pos}
theorem i_z (hm : X.mg "zip" = none) (ha : PAd X cl xc W [a, b] ga) (hg : X.env.kindOf "zip" = some .globalImplicit := by kernel_rfl) (hs : starEach [a, b] X.env = (false, eval a X.env) :: starEach [b] X.env := by kernel_rfl) (hpl : (backTo pos (starEach [b] X.env)).any (·.1) = false := by kernel_rfl) :
    PI X (.Tuple elts kk tp) (.Call (.Name "zip" p) [a, b] [] pos) (tI X.K cl xc W (iZp ga)) := i_zip hg hm ha hs hpl
theorem i_e (hm : X.mg "enumerate" = none) (ha : PAd X cl xc W [a] ga) (hg : X.env.kindOf "enumerate" = some .globalImplicit := by kernel_rfl) (hs : starEach [a] X.env = [(false, eval a X.env)] := by kernel_rfl) :
    PI X (.Tuple elts kk tp) (.Call (.Name "enumerate" p) [a] [] pos) (tI X.K cl xc W (iEn ga)) := i_enum hg hm ha hs
end
end Rf
namespace Rf
open PySem L2
/-! raise C(..), C an own class of exceptions without own making -/
def dRs (c : Nat) (ga : M → R (List D)) : M → R Fl := fun m => (ga m).bind fun ds m => if ds.length ≤ sizeLine then .ex c none m else .no
@[simp] theorem dRs_ap (c : Nat) (ga : M → R (List D)) (m : M) : dRs c ga m = ((ga m).bind fun ds m => if ds.length ≤ sizeLine then .ex c none m else .no) := rfl
section
variable {X : Cx} {cl : Nat → Addr} {xc : XC} {W : WX} {e : Expr} {es : List Expr} {ga : M → R (List D)} {x : Str} {p pos pos2 : Pos} {bmB : List Value} {B newId initId : String} {c : Nat}
theorem st_rs (hc : X.calm = true) (tk : Takes X W) (F : ExcBaseFacts B newId initId bmB) (q : PySem.W.excIn X.K (xc.cls c) bmB newId = true) (gC : X.mg x = some (.ref (xc.cls c))) (kC : PySem.W.keepIn X.K (.ref (xc.cls c)) = true) (r : Raises X (.ref (xc.cls c))) (ha : PAd X cl xc W (e :: es) ga)
    (hg : X.env.kindOf x = some .globalImplicit := by kernel_rfl) (hdb : (x == ("__debug__" : Str)) = false := by kernel_rfl) (he : starEach (e :: es) X.env = (false, eval e X.env) :: starEach es X.env := by kernel_rfl) (hpl : (backTo pos (starEach es X.env)).any (·.1) = false := by kernel_rfl) :
    PSd X cl xc W (.Raise (some (.Call (.Name x p) (e :: es) [] pos)) none pos2) (dRs c ga) :=
  ps_imp (ps_raise hc tk (pmk_ownA F q gC kC r hg ha hdb he hpl)) fun Dn σ H hq => by
    obtain ⟨φ, fd, fv, F1, m, lv, rl, z⟩ := tS_post.mp hq
    refine ⟨φ, fd, fv, F1, m, lv, rl, ?_⟩
    unfold dRs at z
    cases eg : ga m with
    | no => rw [eg] at z; exact z
    | ex c' n m1 => rw [eg] at z; exact fun F' H' dx r' hx => z F' H' σ dx r' hx
    | ok ds m1 =>
      rw [eg] at z
      simp only [R.bind_ok] at z
      split at z
      · rename_i hl
        exact fun F' H' vs hlen r' => ⟨by rw [hlen]; exact hl, z F' H' σ none r'.untops rfl⟩
      · exact z.elim
end
end Rf
namespace Rf
open PySem L2
/-! the head's hook, with any test of the module's things -/
def obsF (n : Nat) (fa : List He.Fa) (fn : List He.DefD) (ck : PySem.W.Frag → Bool) (g : Addr → Option Obj) : Bool × He.AlD := (ck (He.frG g (He.asD g n)), He.obsD fa fn (He.frG g (He.asD g n)))
def hookF (n : Nat) (fa : List He.Fa) (fn : List He.DefD) (ck : PySem.W.Frag → Bool) : PySem.W.Hook where
  α := Bool × He.AlD
  obs := fun s => obsF n fa fn ck s.heap.get?
  val := fun _ => (true, He.valD fn)
  says := fun _ h => ∃ K : PySem.W.Frag, K.In h ∧ He.SaysD fa fn K ∧ ck K = true
  of := fun _ _ e => ⟨_, He.frG_in, congrArg Prod.snd e, congrArg Prod.fst e⟩
  keeps := fun _ _ _ ⟨K, hK, c⟩ k => ⟨K, PySem.W.Frag.In.keeps hK k, c⟩
theorem obsF_eq {n : Nat} {fa : List He.Fa} {fn : List He.DefD} {ck : PySem.W.Frag → Bool} {g : Addr → Option Obj} {s : Shared} (h : ∀ a, g a = s.heap.get? a) : obsF n fa fn ck g = (hookF n fa fn ck).obs s := by
  have e : g = s.heap.get? := funext h
  subst e
  rfl
/-! own classes of exceptions, by their numbers -/
def xcOf (K : PySem.W.Frag) (ns fs : List Str) : XC := ⟨fun c => He.ga K (ns.getD c ""), fun c => fs.getD c ""⟩
structure XcR (K : PySem.W.Frag) (mg : Str → Option Value) (xc : XC) (c : Nat) (x : Str) : Prop where
  q : PySem.W.excIn K (xc.cls c) He.veBase "ValueError.__new__" = true
  k : PySem.W.keepIn K (.ref (xc.cls c)) = true
  b : PySem.W.subIn K (.ref (xc.cls c)) (.type "BaseException") = some true
  t : PySem.W.typeIn K (.ref (xc.cls c)) = some (.type "type")
  g : mg x = some (.ref (xc.cls c))
theorem xcR_of {K : PySem.W.Frag} {mg : Str → Option Value} {ns fs : List Str} {c : Nat} {x : Str} (h : (He.Fa.exc x).ok K = true) (g : mg x = some (.ref (He.ga K x))) (e : ns.getD c "" = x) : XcR K mg (xcOf K ns fs) c x := by
  obtain ⟨h1, h2, h3, h4⟩ := He.exc_ok h
  subst e
  exact ⟨h1, h2, h3, h4, g⟩
/-- who is caught by whom -/
def sbB (K : PySem.W.Frag) (ns : List Str) (x : Str) (tb : List Bool) : Bool := (ns.zip tb).all fun y => decide (PySem.W.exmOne K (.ref (He.ga K y.1)) (.ref (He.ga K x)) = some y.2)
structure XcS (K : PySem.W.Frag) (mg : Str → Option Value) (xc : XC) (tb : List Bool) (x : Str) : Prop where
  ex : ∃ C, mg x = some (.ref C) ∧ ∀ c b, tb[c]? = some b → PySem.W.exmOne K (.ref (xc.cls c)) (.ref C) = some b
theorem xcS_of {K : PySem.W.Frag} {mg : Str → Option Value} {ns fs : List Str} {tb : List Bool} {x : Str} (h : sbB K ns x tb = true) (g : mg x = some (.ref (He.ga K x))) (hl : ns.length = tb.length) : XcS K mg (xcOf K ns fs) tb x := by
  refine ⟨_, g, fun c b e => ?_⟩
  have hc : c < tb.length := (List.getElem?_eq_some_iff.mp e).1
  have e1 : ns[c]? = some (ns[c]'(by omega)) := List.getElem?_eq_getElem (by omega)
  have e2 : (ns.zip tb)[c]? = some (ns[c]'(by omega), b) := by rw [List.getElem?_zip_eq_some]; exact ⟨e1, e⟩
  have q := List.all_eq_true.mp h _ (List.mem_of_getElem? e2)
  have q := of_decide_eq_true q
  have e3 : ns.getD c "" = ns[c]'(by omega) := by rw [List.getD_eq_getElem?_getD, e1]; rfl
  show PySem.W.exmOne K (.ref (He.ga K (ns.getD c ""))) _ = _
  rw [e3]
  exact q
/-- isinstance of what is held -/
def isB (K : PySem.W.Frag) (ns : List Str) (x : Str) (tb : List (Nat × Bool)) : Bool := tb.all fun y => decide (PySem.W.kitOne K (.ref (He.ga K (ns.getD y.1 ""))) (.ref (He.ga K x)) = some y.2)
def excC (K : PySem.W.Frag) (D : Addr) : Bool :=
  decide (PySem.W.findIn K (.ref D) "__getattribute__" = some (some (.builtin "BaseException.__getattribute__"))) && (decide (PySem.W.findIn K (.ref D) "__getattr__" = some none) && (decide (PySem.W.subIn K (.ref D) (.type "BaseException") = some true) && (PySem.W.hasDictIn K D &&
  (decide (PySem.W.findIn K (.ref D) "__class__" = some (some (.builtin "object.__class__"))) && (decide (PySem.W.specialIn K (.builtin "object.__class__") "__get__" = some (some (.builtin "getset_descriptor.__get__"))) && (decide (PySem.W.takesIn K (.builtin "object.__class__") = some true) && decide (PySem.W.mroIn K D (.type "object") = some true)))))))
theorem excC_ok {K : PySem.W.Frag} {D : Addr} (h : excC K D = true) : ExcC K D := by
  obtain ⟨h1, h⟩ := band2 h
  obtain ⟨h2, h⟩ := band2 h
  obtain ⟨h3, h⟩ := band2 h
  obtain ⟨h4, h⟩ := band2 h
  obtain ⟨h5, h⟩ := band2 h
  obtain ⟨h6, h⟩ := band2 h
  obtain ⟨h7, h8⟩ := band2 h
  exact ⟨of_decide_eq_true h1, of_decide_eq_true h2, of_decide_eq_true h3, h4, of_decide_eq_true h5, of_decide_eq_true h6, of_decide_eq_true h7, of_decide_eq_true h8⟩
/-- the classes in tb, and what isinstance says of them and x -/
structure XcI (K : PySem.W.Frag) (mg : Str → Option Value) (xc : XC) (tb : List (Nat × Bool)) (x : Str) : Prop where
  ex : ∃ C, mg x = some (.ref C) ∧ ∀ c b, (c, b) ∈ tb → PySem.W.kitOne K (.ref (xc.cls c)) (.ref C) = some b ∧ ExcC K (xc.cls c)
def isAll (K : PySem.W.Frag) (ns : List Str) (x : Str) (tb : List (Nat × Bool)) : Bool := isB K ns x tb && tb.all fun y => excC K (He.ga K (ns.getD y.1 ""))
theorem xcI_of {K : PySem.W.Frag} {mg : Str → Option Value} {ns fs : List Str} {tb : List (Nat × Bool)} {x : Str} (h : isAll K ns x tb = true) (g : mg x = some (.ref (He.ga K x))) : XcI K mg (xcOf K ns fs) tb x := by
  obtain ⟨h1, h2⟩ := band2 h
  exact ⟨_, g, fun c b e => ⟨of_decide_eq_true (List.all_eq_true.mp h1 _ e), excC_ok (List.all_eq_true.mp h2 _ e)⟩⟩
section
variable {X : Cx} {cl : Nat → Addr} {xc : XC} {W : WX} {e : Expr} {es : List Expr} {ga : M → R (List D)} {x : Str} {p pos pos2 : Pos} {c : Nat}
theorem st_rx (hc : X.calm = true) (tk : Takes X W) (F : XcR X.K X.mg xc c x) (ha : PAd X cl xc W (e :: es) ga)
    (hg : X.env.kindOf x = some .globalImplicit := by kernel_rfl) (hdb : (x == ("__debug__" : Str)) = false := by kernel_rfl) (he : starEach (e :: es) X.env = (false, eval e X.env) :: starEach es X.env := by kernel_rfl) (hpl : (backTo pos (starEach es X.env)).any (·.1) = false := by kernel_rfl) :
    PSd X cl xc W (.Raise (some (.Call (.Name x p) (e :: es) [] pos)) none pos2) (dRs c ga) :=
  st_rs hc tk PySem.F.excBase_ValueError F.q F.g F.k (raises_own F.b F.t) ha hg hdb he hpl
end
end Rf
namespace Rf
open PySem L2
/-! try .. except -/
/-- the clause's name is slot i -/
def hide (i : Option Nat) (m : M) : Option M := match i with
  | none => some m
  | some i => match m.sl[i]? with
    | some (.val _) => some (setS m i .abs)
    | _ => none
def dTry (i : Option Nat) (b : M → R Fl) (sb : List Bool) (h : Nat → Option Int → M → R Fl) : M → R Fl := fun m => match b m with
  | .ex c n m1 => match sb[c]? with
    | some true => match hide i m1 with
      | some m2 => match h c n m2 with
        | .ok (.rt d) m3 => .ok (.rt d) m3
        | .ok fl m3 => match hide i m3 with
          | some m4 => .ok fl m4
          | none => .no
        | _ => .no
      | none => .no
    | some false => .ex c n m1
    | none => .no
  | r => r
section
variable {K : PySem.W.Frag} {cl : Nat → Addr} {F H : Hp} {φ : Type} {fd : φ → D} {fv : φ → V} {σ : St} {m : M} {lv : List V}
theorem Rel.hid {i : Nat} {d : D} (r : Rel K cl fd fv F H σ m lv) (e : m.sl[i]? = some (.val d)) (v : V) : Rel K cl fd fv F H (σ.set i (some v)) (setS m i .abs) lv := by
  have hi : i < m.sl.length := (List.getElem?_eq_some_iff.mp e).1
  have r1 := r.drop1 hi (fun k h => by rw [e] at h; cases h)
  refine ⟨r1.wf.map (fun a => match a with | .s j => open Classical in if j = i then none else some (.s j) | a => some a) (fun a b x h1 h2 => ?_) (fun a x hx => ?_) (fun a ha => ?_), r1.ll, by simp [setS, r.sl], fun j d' hj hne => ?_, fun j k hj => ?_⟩
  · rcases a with a | a | a <;> rcases b with b | b | b <;> simp only at h1 h2
    all_goals first | (cases h1; cases h2; rfl) | (cases h1; cases h2; done) | skip
    all_goals (first | (split at h1 <;> split at h2 <;> first | (cases h1; done) | (cases h2; done) | (have e := h1.trans h2.symm; simp at e; subst e; rfl)) | (split at h1 <;> first | (cases h1; done) | (have e := h1.trans h2.symm; simp at e)) | (split at h2 <;> first | (cases h2; done) | (have e := h1.trans h2.symm; simp at e)))
  · rcases a with a | a | a
    · cases hx; exact ⟨rfl, rfl⟩
    · cases hx; exact ⟨rfl, rfl⟩
    · simp only at hx
      split at hx
      · cases hx
      · rename_i ne
        cases hx
        refine ⟨rfl, ?_⟩
        simp [cV, List.getElem?_set_ne (Ne.symm ne)]
  · rcases a with a | a | a
    · cases ha
    · cases ha
    · simp only at ha
      split at ha
      · rename_i e'; subst e'; simp [cD, setS, hi, Sl.d]
      · cases ha
  · by_cases q : j = i
    · subst q; simp [setS, hi] at hj; exact absurd hj.symm hne
    · obtain ⟨w, hw⟩ := r1.vs j d' hj hne
      refine ⟨w, ?_⟩
      rw [List.getElem?_set_ne (Ne.symm q)] at hw ⊢
      exact hw
  · by_cases q : j = i
    · subst q; simp [setS, hi] at hj
    · obtain ⟨h1, w, h2, h3⟩ := r1.vl j k hj
      refine ⟨h1, w, h2, ?_⟩
      rw [List.getElem?_set_ne (Ne.symm q)] at h3 ⊢
      exact h3
theorem hide_some {i : Nat} {m m' : M} (h : hide (some i) m = some m') : ∃ d, m.sl[i]? = some (.val d) ∧ m' = setS m i .abs := by
  have h : (match m.sl[i]? with
    | some (.val _) => some (setS m i .abs)
    | _ => none) = some m' := h
  split at h
  · rename_i d e; cases h; exact ⟨d, e, rfl⟩
  · cases h
end
/-- a suite's block: what is asked where the exception of class c stands in slot i -/
def tQs (K : PySem.W.Frag) (cl : Nat → Addr) (xc : XC) (i : Nat) (a : Addr) (p : M → R Fl) : TS := fun Dn σ H => σ[i]? = some (some (.ref a)) ∧ tS K cl xc W0 p Dn σ H
def tQ (K : PySem.W.Frag) (cl : Nat → Addr) (i : Nat) (a : Addr) (s : SF) : TE := fun σ H Q => σ[i]? = some (some (.ref a)) ∧ tP K cl s σ H Q
def sAnd (s t : SF) : SF := fun m => (s m).bind fun d => match d with
  | .bl true => t m
  | .bl false => some (.bl false)
  | _ => none
def sOr (s t : SF) : SF := fun m => (s m).bind fun d => match d with
  | .bl true => some (.bl true)
  | .bl false => t m
  | _ => none
def sNot (s : SF) : SF := fun m => (s m).bind fun d => match d with
  | .bl b => some (.bl (!b))
  | _ => none
@[simp] theorem sAnd_ap (s t : SF) (m : M) : sAnd s t m = ((s m).bind fun d => match d with
  | .bl true => t m
  | .bl false => some (.bl false)
  | _ => none) := rfl
@[simp] theorem sOr_ap (s t : SF) (m : M) : sOr s t m = ((s m).bind fun d => match d with
  | .bl true => some (.bl true)
  | .bl false => t m
  | _ => none) := rfl
@[simp] theorem sNot_ap (s : SF) (m : M) : sNot s m = ((s m).bind fun d => match d with
  | .bl b => some (.bl (!b))
  | _ => none) := rfl
section
variable {X : Cx} {cl : Nat → Addr} {xc : XC} {W : WX} {e a b : Expr} {es : List Expr} {s t : SF} {pos : Pos} {i : Nat} {A : Addr} {st : Stmt} {body suite orelse : List Stmt} {p q : M → R Fl}
theorem q_s (h : PEs X cl e s) : PE X e (tQ X.K cl i A s) := pe_imp h fun σ H Q q => q.2
theorem q_and1 {op : BoolOp} (h : PE X a (tQ X.K cl i A s)) : PE X (.BoolOp op [a] pos) (tQ X.K cl i A s) := pe_one h
theorem q_and (h : PE X a (tQ X.K cl i A s)) (h' : PE X (.BoolOp .And (b :: es) pos) (tQ X.K cl i A t)) : PE X (.BoolOp .And (a :: b :: es) pos) (tQ X.K cl i A (sAnd s t)) :=
  pe_imp (pe_and h h') fun σ H Q ⟨z, φ, fd, fv, F, m, lv, r, d, ed, hd, q⟩ => by
    unfold sAnd at ed
    cases es : s m with
    | none => rw [es] at ed; cases ed
    | some x =>
      rw [es] at ed
      simp only [Option.bind_some] at ed
      split at ed
      · exact ⟨z, φ, fd, fv, F, m, lv, r, _, es, rfl, fun v hv => ⟨true, hv, by rw [if_pos rfl]; exact ⟨z, φ, fd, fv, F, m, lv, r, d, ed, hd, q⟩⟩⟩
      · cases ed
        exact ⟨z, φ, fd, fv, F, m, lv, r, _, es, rfl, fun v hv => ⟨false, hv, by rw [if_neg (by decide)]; exact q _ rfl⟩⟩
      · cases ed
theorem q_or (h : PE X a (tQ X.K cl i A s)) (h' : PE X (.BoolOp .Or (b :: es) pos) (tQ X.K cl i A t)) : PE X (.BoolOp .Or (a :: b :: es) pos) (tQ X.K cl i A (sOr s t)) :=
  pe_imp (pe_or h h') fun σ H Q ⟨z, φ, fd, fv, F, m, lv, r, d, ed, hd, q⟩ => by
    unfold sOr at ed
    cases es : s m with
    | none => rw [es] at ed; cases ed
    | some x =>
      rw [es] at ed
      simp only [Option.bind_some] at ed
      split at ed
      · cases ed
        exact ⟨z, φ, fd, fv, F, m, lv, r, _, es, rfl, fun v hv => ⟨true, hv, by rw [if_pos rfl]; exact q _ rfl⟩⟩
      · exact ⟨z, φ, fd, fv, F, m, lv, r, _, es, rfl, fun v hv => ⟨false, hv, by rw [if_neg (by decide)]; exact ⟨z, φ, fd, fv, F, m, lv, r, d, ed, hd, q⟩⟩⟩
      · cases ed
theorem q_not (h : PE X a (tQ X.K cl i A s)) : PE X (.UnaryOp .Not a pos) (tQ X.K cl i A (sNot s)) :=
  pe_imp (pe_not h) fun σ H Q ⟨z, φ, fd, fv, F, m, lv, r, d, ed, hd, q⟩ => by
    unfold sNot at ed
    cases es : s m with
    | none => rw [es] at ed; cases ed
    | some x =>
      rw [es] at ed
      simp only [Option.bind_some] at ed
      split at ed
      · rename_i k
        cases ed
        exact ⟨z, φ, fd, fv, F, m, lv, r, _, es, rfl, fun v hv => ⟨k, hv, q _ rfl⟩⟩
      · cases ed
/-- isinstance(e, C), e what is held -/
theorem q_is {oe : Obj} {pn : List (Addr × Obj)} {tb : List (Nat × Bool)} {x n : Str} {c : Nat} {k : Bool} {p1 p2 p3 : Pos} (hz : Zc (.ref (xc.cls c)) none oe) (hf : ∃ vs, oe.data = .fields vs) (T : XcI X.K X.mg xc tb x) (hm : X.mg "isinstance" = none)
    (hin : tb.contains (c, k) = true := by kernel_rfl) (hN : X.N[i]? = some n := by kernel_rfl) (hv : visB X.env.scope n = true := by kernel_rfl) (hg : X.env.kindOf "isinstance" = some .globalImplicit := by kernel_rfl) (hgx : X.env.kindOf x = some .globalImplicit := by kernel_rfl)
    (h3 : (x == ("__debug__" : Str)) = false := by kernel_rfl)
    (hs : starEach [.Name n p2, .Name x p3] X.env = [(false, eval (.Name n p2) X.env), (false, eval (.Name x p3) X.env)] := by kernel_rfl) (hs2 : starEach [.Name x p3] X.env = [(false, eval (.Name x p3) X.env)] := by kernel_rfl) :
    PE (X.suite A ((A, oe) :: pn)) (.Call (.Name "isinstance" p1) [.Name n p2, .Name x p3] [] pos) (tQ X.K cl i A (sC (.bl k))) := by
  obtain ⟨C, hC, hT⟩ := T
  obtain ⟨hk, hE⟩ := hT c k (by simpa using hin)
  have e1 : PE (X.suite A ((A, oe) :: pn)) (.Name n p2) (tVar i) := pe_var hN (vis_of hv).1 (vis_of hv).2.1 (vis_of hv).2.2
  have e2 : PE (X.suite A ((A, oe) :: pn)) (.Name x p3) (tC (.ref C)) := pe_glob hgx hC rfl h3
  refine pe_imp (pe_callB (X := X.suite A ((A, oe) :: pn)) (call_isE hE hz hf) hg hm (by decide +kernel) (pa_cons e1 (pa_cons e2 pa_nil (by exact hs2)) (by rw [hs2]; exact hs)) (by decide) (by decide +kernel) (by rw [hs2]; exact hs) (by rw [hs2]; rfl)) fun σ H Q ⟨z, φ, fd, fv, F, m, lv, r, d, ed, hd, q⟩ => ?_
  have ed : some (D.bl k) = some d := ed
  cases ed
  exact ⟨_, z, .ref C, .ref C, k, rfl, fun u hu => hu, hk, q _ rfl⟩
theorem q_ret (h : PE X e (tQ X.K cl i A s)) : PS X (.Return (some e) pos) (tQs X.K cl xc i A (dRet (dS s))) :=
  ps_imp (ps_ret h) fun Dn σ H ⟨z, hq⟩ => by
    obtain ⟨φ, fd, fv, F, m, lv, r, q⟩ := tS_post.mp hq
    refine ⟨z, φ, fd, fv, F, m, lv, r, ?_⟩
    unfold dRet dS at q
    cases es : s m with
    | none => simp only [es] at q; exact q.elim
    | some d =>
      simp only [es] at q
      cases hd : isSc d with
      | false => simp [hd] at q; exact q.elim
      | true =>
        simp only [hd, if_true] at q
        exact ⟨d, rfl, hd, fun v hv => q F H σ v (r.push (r.wf.dup0 hv.rep))⟩
theorem q_if (h : PE X e (tQ X.K cl i A s)) (ha : PSsd X cl xc W0 body p) (hb : PSsd X cl xc W0 orelse q) (he : ∀ whole, isTrue e X.env whole = (do let v ← whole; standAt e.pos; holding [v] (truthy v)) := by exact fun _ => by kernel_rfl) : PS X (.If e body orelse pos) (tQs X.K cl xc i A (dIfS (dTs (sT s)) p q)) :=
  ps_imp (ps_if (pt_val h he) ha hb) fun Dn σ H ⟨z, hq⟩ => by
    obtain ⟨φ, fd, fv, F, m, lv, r, hq⟩ := tS_post.mp hq
    refine ⟨z, φ, fd, fv, F, m, lv, r, ?_⟩
    unfold dIfS dTs sT at hq
    cases es : s m with
    | none => simp [es, ofO] at hq; exact hq.elim
    | some d =>
      cases eb : bOf d with
      | none => simp [es, eb, ofO] at hq; exact hq.elim
      | some k =>
        have := bOf_some eb
        subst this
        simp only [es, eb, ofO, Option.bind_some, R.bind] at hq
        refine ⟨_, rfl, rfl, fun v hv => ⟨k, hv, ?_⟩⟩
        cases k with
        | true => exact tS_post.mpr ⟨φ, fd, fv, F, m, lv, r, hq⟩
        | false => exact tS_post.mpr ⟨φ, fd, fv, F, m, lv, r, hq⟩
theorem q_one (h : PS X st (tQs X.K cl xc i A p)) : PSs X [st] (tQs X.K cl xc i A (dSeq p dNx)) :=
  pss_imp (pss_one h) fun Dn σ H ⟨z, hq⟩ => by
    obtain ⟨φ, fd, fv, F, m, lv, r, hq⟩ := tS_post.mp hq
    refine ⟨z, tS_post.mpr ⟨φ, fd, fv, F, m, lv, r, ?_⟩⟩
    unfold dSeq at hq
    cases e : p m with
    | no => rw [e] at hq; exact hq
    | ex c n m' => rw [e] at hq; exact hq
    | ok fl m' =>
      rw [e] at hq
      cases fl <;> exact hq
theorem q_any (h : PSsd X cl xc W0 suite p) : PSs X suite (tQs X.K cl xc i A p) := pss_imp h fun Dn σ H q => q.2
end
section
variable {X : Cx} {cl : Nat → Addr} {xc : XC} {W : WX} {pos pos' np : Pos} {i : Nat} {x n : Str} {body suite : List Stmt} {b0 : Stmt} {p : M → R Fl} {tb : List Bool} {h : Nat → Option Int → M → R Fl}
/-- what the body's exceptions come to -/
theorem try_body {io : Option Nat} {Wn : WX} {Dn : Ends} {σ : St} {H : Hp} (hq : tS X.K cl xc W (dTry io p tb h) Dn σ H)
    (hw : ∀ (φ : Type) (fd : φ → D) (fv : φ → V) (lv : List V) (c : Nat) (n : Option Int) (m1 : M) (b : Bool) (F' H' : Hp) (σ' : St) (dx : Option Addr), tb[c]? = some b → Rel X.K cl fd fv F' H' σ' m1 lv → ExcAt xc c n dx H' →
      (b = false → W (.ref (xc.cls c)) dx σ' H') → (b = true → ∃ m2, hide io m1 = some m2 ∧ PostS X.K cl xc W0 fd fv lv Dn (match h c n m2 with
        | .ok (.rt d) m3 => .ok (.rt d) m3
        | .ok fl m3 => match hide io m3 with
          | some m4 => .ok fl m4
          | none => .no
        | _ => .no)) → Wn (.ref (xc.cls c)) dx σ' H') : tS X.K cl xc Wn p Dn σ H := by
  obtain ⟨φ, fd, fv, F, m, lv, r, q⟩ := tS_post.mp hq
  refine tS_post.mpr ⟨φ, fd, fv, F, m, lv, r, ?_⟩
  unfold dTry at q
  cases ep : p m with
  | no => simp only [ep] at q; exact q
  | ok fl m' => simp only [ep] at q; cases fl <;> exact q
  | ex c n m1 =>
    simp only [ep] at q
    cases et : tb[c]? with
    | none => simp only [et] at q; exact q.elim
    | some b =>
      intro F' H' σ' dx r' hx
      refine hw φ fd fv lv c n m1 b F' H' σ' dx et r' hx (fun e => ?_) (fun e => ?_)
      · subst e
        simp only [et] at q
        exact q F' H' σ' dx r' hx
      · subst e
        simp only [et] at q
        cases eh : hide io m1 with
        | none => simp only [eh] at q; exact q.elim
        | some m2 =>
          simp only [eh] at q
          refine ⟨m2, rfl, ?_⟩
          cases e2 : h c n m2 with
          | no => simp only [e2] at q ⊢; exact q
          | ex c' n' m3 => simp only [e2] at q ⊢; exact q
          | ok fl m3 =>
            simp only [e2] at q ⊢
            cases fl with
            | rt d => exact q
            | nx => cases e3 : hide io m3 <;> simp only [e3] at q ⊢ <;> exact q
            | bk => cases e3 : hide io m3 <;> simp only [e3] at q ⊢ <;> exact q
            | ct => cases e3 : hide io m3 <;> simp only [e3] at q ⊢ <;> exact q
theorem st_ty (hs : X.stack = X.env :: X.outer) (hf : X.env.frame = some X.env.locals) (tk : Takes X W) (T : XcS X.K X.mg xc tb x)
    (hb : ∀ (W : WX) (pn : List (Addr × Obj)) (xe : Value → Shared → Prop), Takes (X.tr pn xe) W → PassesOwn (model X.prog X.w) X.A X.env xe → PSsd (X.tr pn xe) cl xc W body p)
    (hsu : ∀ (c : Nat) (n : Option Int) (a : Addr) (oe : Obj) (d : Option Addr) (pn : List (Addr × Obj)), tb[c]? = some true → PSsd (X.suite a ((a, oe) :: pn)) cl xc W0 (b0 :: suite) (h c n))
    (hg : X.env.kindOf x = some .globalImplicit := by kernel_rfl) (hd : (x == ("__debug__" : Str)) = false := by kernel_rfl) :
    PSd X cl xc W (.Try body [.ExceptHandler (some (.Name x np)) none (b0 :: suite) pos'] [] [] pos) (dTry none p tb h) := by
  obtain ⟨C, hC, hT⟩ := T
  refine ps_imp (ps_try_only (c := .ref C) hs hf ⟨hg, hd, .inl hC⟩ tk (tb := fun W => tS X.K cl xc W p) hb (ts := fun a cls d => fun Dn σ H => ∃ c n, cls = .ref (xc.cls c) ∧ tb[c]? = some true ∧ tS X.K cl xc W0 (h c n) Dn σ H) (fun a oe cls d pn hz hv => ⟨fun pins s σ H Dn I ⟨c, n, e, ht, q⟩ => (hsu c n a oe d pn ht).run pins s σ H Dn I q⟩)) fun Dn σ H hq => ?_
  refine try_body hq fun φ fd fv lv c n m1 b F' H' σ' dx et r' hx h1 h2 => ⟨b, hT c b et, fun e a ha => ?_, fun e => h1 e⟩
  obtain ⟨m2, e2, q⟩ := h2 e
  cases e2
  subst e
  refine ⟨c, n, rfl, et, tS_post.mpr ⟨φ, fd, fv, F', m1, lv, r', ?_⟩⟩
  cases e2 : h c n m1 with
  | no => simp only [e2] at q; exact q
  | ex c' n' m3 => simp only [e2] at q; exact q.elim
  | ok fl m3 => simp only [e2] at q; cases fl <;> exact q
theorem st_tyA (hs : X.stack = X.env :: X.outer) (hf : X.env.frame = some X.env.locals) (tk : Takes X W) (nd : X.N.Nodup) (i : Nat) (T : XcS X.K X.mg xc tb x)
    (hb : ∀ (W : WX) (pn : List (Addr × Obj)) (xe : Value → Shared → Prop), Takes (X.tr pn xe) W → PassesOwn (model X.prog X.w) X.A X.env xe → PSsd (X.tr pn xe) cl xc W body p)
    (hsu : ∀ (c : Nat) (n : Option Int) (a : Addr) (oe : Obj) (d : Option Addr) (pn : List (Addr × Obj)), tb[c]? = some true → Zc (.ref (xc.cls c)) d oe → (∃ vs, oe.data = .fields vs) → (n = none → d = none) → PSs (X.suite a ((a, oe) :: pn)) (b0 :: suite) (tQs X.K cl xc i a (h c n)))
    (hi : X.N[i]? = some n := by kernel_rfl) (hln : X.env.kindOf n = some .local := by kernel_rfl) (hg : X.env.kindOf x = some .globalImplicit := by kernel_rfl) (hd : (x == ("__debug__" : Str)) = false := by kernel_rfl) :
    PSd X cl xc W (.Try body [.ExceptHandler (some (.Name x np)) (some n) (b0 :: suite) pos'] [] [] pos) (dTry (some i) p tb h) := by
  obtain ⟨C, hC, hT⟩ := T
  refine ps_imp (ps_try_as (c := .ref C) (i := i) hs hf nd hi hln ⟨hg, hd, .inl hC⟩ tk (tb := fun W => tS X.K cl xc W p) hb (ts := fun a cls d => fun Dn σ H => ∃ c n, cls = .ref (xc.cls c) ∧ tb[c]? = some true ∧ (n = none → d = none) ∧ tQs X.K cl xc i a (h c n) Dn σ H) (fun a oe cls d pn hz hv => ⟨fun pins s σ H Dn I ⟨c, n, e, ht, hn, q⟩ => by
    subst e
    exact (hsu c n a oe d pn ht hz hv hn).run pins s σ H Dn I q⟩)) fun Dn σ H hq => ?_
  refine try_body hq fun φ fd fv lv c n m1 b F' H' σ' dx et r' hx h1 h2 => ⟨b, hT c b et, fun e a ha => ?_, fun e => h1 e⟩
  obtain ⟨m2, e2, q⟩ := h2 e
  subst e
  obtain ⟨d0, e0, rfl⟩ := hide_some e2
  have hlen : i < σ'.length := by rw [r'.sl]; exact (List.getElem?_eq_some_iff.mp e0).1
  refine ⟨c, n, rfl, et, fun e => by subst e; exact hx, by simp [hlen], tS_post.mpr ⟨φ, fd, fv, F', _, lv, r'.hid e0 (.ref a), ?_⟩⟩
  have out : ∀ {fl : Fl} {m3 m4 : M} {F2 H2 : Hp} {σ2 : St}, hide (some i) m3 = some m4 → Rel X.K cl fd fv F2 H2 σ2 m3 lv → Rel X.K cl fd fv F2 H2 (σ2.set i none) m4 lv := fun {fl m3 m4 F2 H2 σ2} e r => by
    obtain ⟨d3, e3, rfl⟩ := hide_some e
    exact r.drop1 (List.getElem?_eq_some_iff.mp e3).1 (fun k hk => by rw [e3] at hk; cases hk)
  cases e3 : h c n (setS m1 i .abs) with
  | no => simp only [e3] at q; exact q
  | ex c' n' m3 => simp only [e3] at q; exact q.elim
  | ok fl m3 =>
    simp only [e3] at q
    cases fl with
    | rt d => exact q
    | nx =>
      cases e4 : hide (some i) m3 with
      | none => simp only [e4] at q; exact q.elim
      | some m4 => simp only [e4] at q; exact fun F2 H2 σ2 r2 => q F2 H2 _ (out (fl := .nx) e4 r2)
    | bk =>
      cases e4 : hide (some i) m3 with
      | none => simp only [e4] at q; exact q.elim
      | some m4 => simp only [e4] at q; exact fun F2 H2 σ2 r2 => q F2 H2 _ (out (fl := .bk) e4 r2)
    | ct =>
      cases e4 : hide (some i) m3 with
      | none => simp only [e4] at q; exact q.elim
      | some m4 => simp only [e4] at q; exact fun F2 H2 σ2 r2 => q F2 H2 _ (out (fl := .ct) e4 r2)
end
def tbOnly (tb : List Bool) (c : Nat) : Bool := (List.range tb.length).all fun i => !(tb.getD i false) || i == c
theorem tb_one {tb : List Bool} {c c0 : Nat} (e : tb[c]? = some true) (h : tbOnly tb c0 = true := by kernel_rfl) : c = c0 := by
  have hc : c < tb.length := (List.getElem?_eq_some_iff.mp e).1
  have q := List.all_eq_true.mp h c (by simpa using hc)
  rw [List.getD_eq_getElem?_getD, e] at q
  simpa using q
/-- the exception has no field -/
def onN (n : Option Int) (f : M → R Fl) : M → R Fl := match n with
  | none => f
  | some _ => fun _ => .no
@[simp] theorem onN_n (f : M → R Fl) : onN none f = f := rfl
theorem q_onN {X : Cx} {cl : Nat → Addr} {xc : XC} {ss : List Stmt} {i : Nat} {A : Addr} {n : Option Int} {f : M → R Fl} (h : n = none → PSs X ss (tQs X.K cl xc i A f)) : PSs X ss (tQs X.K cl xc i A (onN n f)) := by
  cases n with
  | none => exact h rfl
  | some k => exact ⟨fun pins s σ H Dn I ⟨_, _, _, _, _, _, _, _, q⟩ => q.elim⟩
@[simp] theorem dTry_ap (i : Option Nat) (b : M → R Fl) (sb : List Bool) (h : Nat → Option Int → M → R Fl) (m : M) : dTry i b sb h m = (match b m with
  | .ex c n m1 => match sb[c]? with
    | some true => match hide i m1 with
      | some m2 => match h c n m2 with
        | .ok (.rt d) m3 => .ok (.rt d) m3
        | .ok fl m3 => match hide i m3 with
          | some m4 => .ok fl m4
          | none => .no
        | _ => .no
      | none => .no
    | some false => .ex c n m1
    | none => .no
  | r => r) := rfl
@[simp] theorem hide_n (m : M) : hide none m = some m := rfl
@[simp] theorem hide_s (i : Nat) (m : M) : hide (some i) m = (match m.sl[i]? with
    | some (.val _) => some (setS m i .abs)
    | _ => none) := rfl
end Rf
namespace L2
open PySem PySem.Spec PyProof.Rows
section
variable {X : Cx} {CX : CXT} {k : Nat} {f C : Addr} {fd : FuncData} {ps : List Str} {sp : Sp} {dvs : List V} {ds : List Value} {E : St → XK} {x m : Str} {p pos apos : Pos} {e o : Expr} {es : List Expr} {t : TA} {ta : TE}
/-- a method's call, what is raised is wished for at the caller's slots -/
theorem pe_methSD (he : PE X o ta) (c : Cls X.K C) (hm : Meth X.K C m f) (F : FnOk X.prog X.w X.K X.mg X.base CX k f fd ps sp) (hr : Room k X.A) (hb : Binds X.K fd ps ds) (hd : Vals dvs ds) (hx : ∀ σ, PassesAt CX X σ (E σ)) (ha : PA X (e :: es) t)
    (hst : starEach (e :: es) X.env = (false, eval e X.env) :: starEach es X.env) (hpl : (backTo pos (starEach es X.env)).any (·.1) = false)
    (ht : eval (.Call (.Attribute o m apos) (e :: es) [] pos) X.env = (do
      let ov ← eval o X.env
      standAt apos.atName
      let (f, first) ← holding [ov] (getMethod ov m (do return (← importBound o X.env).getD true))
      callWith pos f first (backTo pos (starEach (e :: es) X.env)) (backToKw pos (keywordEach [] X.env)))) :
    PE X (.Call (.Attribute o m apos) (e :: es) [] pos) (fun σ H Q => tMeth C m sp dvs (E σ) ta t σ H Q) := by
  refine ⟨fun pins s σ H Q I h => ?_⟩
  refine PySem.W.methodCall_KW (thn (he.run pins s σ H _ I h) fun u s1 ⟨x, H1, I1, rx, a, dx, fs, ex, ea, l, q⟩ => ?_) ht
  subst ex
  obtain rfl : u = Value.ref a := rx
  refine getmeth_ok I1 ea c hm l ?_
  refine PySem.W.callWith_K (first := [.ref a]) (h₀ := X.base) I.ok.mod.kin hm.kp (thn (ha.run pos pins s1 σ H1 _ I1 q) fun us s2 ⟨vs, H2, I2, r, q2⟩ => ⟨I2.kIn, ?_⟩) hst hpl
  exact run_fnSD (us := .ref a :: us) (vs := .ref a :: vs) F hr hb hd (hx σ) I2 (.cons rfl r) q2
theorem pe_methSD0 (he : PE X o ta) (c : Cls X.K C) (hm : Meth X.K C m f) (F : FnOk X.prog X.w X.K X.mg X.base CX k f fd ps sp) (hr : Room k X.A) (hb : Binds X.K fd ps ds) (hd : Vals dvs ds) (hx : ∀ σ, PassesAt CX X σ (E σ))
    (ht : eval (.Call (.Attribute o m apos) [] [] pos) X.env = (do
      let ov ← eval o X.env
      standAt apos.atName
      let (f, first) ← holding [ov] (getMethod ov m (do return (← importBound o X.env).getD true))
      callWith pos f first (backTo pos (starEach [] X.env)) (backToKw pos (keywordEach [] X.env)))) :
    PE X (.Call (.Attribute o m apos) [] [] pos) (fun σ H Q => tMeth C m sp dvs (E σ) ta tNil σ H Q) := by
  refine ⟨fun pins s σ H Q I h => ?_⟩
  refine PySem.W.methodCall_KW (thn (he.run pins s σ H _ I h) fun u s1 ⟨x, H1, I1, rx, a, dx, fs, ex, ea, l, q⟩ => ?_) ht
  subst ex
  obtain rfl : u = Value.ref a := rx
  refine getmeth_ok I1 ea c hm l ?_
  exact PySem.W.callWith_K0 (first := [.ref a]) I1.kIn hm.kp (run_fnSD (us := [.ref a]) (vs := [.ref a]) F hr hb hd (hx σ) I1 (.cons rfl .nil) q)
theorem run_makeSD {pins : List (Addr × Obj)} {σ : St} {H : Hp} {s : Shared} {Q : VK} {us : List Value} {vs : List V} (M : Mk X.K C f) (F : FnOk X.prog X.w X.K X.mg X.base CX k f fd ps sp) (hr : Room (k + 1) X.A) (hb : Binds X.K fd ps ds) (hd : Vals dvs ds)
    (hx : PassesAt CX X σ (E σ)) (I : Inv X pins σ H s) (r : Vals vs us)
    (h : ∀ x dx, H x = none → H dx = none → dx ≠ x → sp (.ref x :: (vs ++ dvs)) (upd (upd H dx (.own x)) x (.ins C dx [])) (fun v H2 => v = .non ∧ Q (.ref x) H2) (E σ)) :
    wpAny (model X.prog X.w) X.A (call (.ref C) us) (EP X pins σ Q) X.xe s := by
  have hq := h (s.heap.objs.size + 1) s.heap.objs.size (I.hok.fresh (Nat.le_succ _)) (I.hok.fresh (Nat.le_refl _)) (Nat.ne_of_lt (Nat.lt_succ_self _))
  have I2 := Inv.made (C := C) I
  have r2 : Vals (V.ref (s.heap.objs.size + 1) :: (vs ++ dvs)) (Value.ref (s.heap.objs.size + 1) :: (us ++ ds)) := .cons rfl (r.append hd)
  have hl : (Value.ref (s.heap.objs.size + 1) :: us ++ ds).length = ps.length := by
    have e := r2.length
    rw [F.len _ _ _ _ hq] at e
    exact e.symm
  refine wpAny_call (make_map (f := f) I.kIn M.makes M.init (beq_iff_eq.mp M.fn) (codeAny_mono (F.run _ X.stack _ _ ⟨Value.ref (s.heap.objs.size + 1) :: us, []⟩ (Value.ref (s.heap.objs.size + 1) :: (us ++ ds)) _ _ (E σ) (hr.make C us [])
    (I2.env0.make C us []) (hb _ (Value.ref (s.heap.objs.size + 1) :: us) I2.kIn hl) r2 hq) fun r s' hq' => ?_))
  cases r with
  | error e => exact hx pins _ _ e s' I2 hq'
  | ok fl =>
    cases fl with
    | ret u =>
      obtain ⟨v, H', I3, rv, ev, q3⟩ := I2.after hq'
      subst ev
      exact ⟨rv, ⟨V.ref (s.heap.objs.size + 1), H', I3, rfl, q3⟩⟩
    | next => exact False.elim hq'
    | brk => exact False.elim hq'
    | cont => exact False.elim hq'
theorem pe_makeSD (M : Mk X.K C f) (F : FnOk X.prog X.w X.K X.mg X.base CX k f fd ps sp) (hr : Room (k + 1) X.A) (hg : Gl X x) (hm : X.mg x = some (.ref C)) (hb : Binds X.K fd ps ds) (hd : Vals dvs ds) (hx : ∀ σ, PassesAt CX X σ (E σ))
    (ha : PA X (e :: es) t) (hdb : (x == ("__debug__" : Str)) = false) (he : starEach (e :: es) X.env = (false, eval e X.env) :: starEach es X.env) (hpl : (backTo pos (starEach es X.env)).any (·.1) = false) :
    PE X (.Call (.Name x p) (e :: es) [] pos) (fun σ H Q => tMake C sp dvs (E σ) t σ H Q) := by
  refine ⟨fun pins s σ H Q I h => ?_⟩
  refine wpAny_Call_Name_kw (ld_glob I hg hm ?_ hdb)
  refine PySem.W.callWith_K (h₀ := X.base) I.ok.mod.kin M.kp (thn (ha.run pos pins s σ H _ I h) fun us s1 ⟨vs, H1, I1, r, q⟩ => ⟨I1.kIn, ?_⟩) he hpl
  exact run_makeSD M F hr hb hd (hx σ) I1 r q
end
end L2
namespace Rf
open PySem L2
/-! own classes -/
structure Me (P : Program) (w : World) (K : PySem.W.Frag) (mg : Str → Option Value) (base : Heap) (cl : Nat → Addr) (xc : XC) (k c : Nat) (mn : Str) (np : Nat) (fn : List D → RC) : Prop where
  ex : ∃ (fa : Addr) (fdt : FuncData) (ps : List Str), ps.length = np ∧ Cls K (cl c) ∧ Meth K (cl c) mn fa ∧ FnOk P w K mg base (L2.CX P w) k fa fdt ps (spF K cl xc np fn) ∧ Binds K fdt ps []
structure Ma (P : Program) (w : World) (K : PySem.W.Frag) (mg : Str → Option Value) (base : Heap) (cl : Nat → Addr) (xc : XC) (k c : Nat) (x : Str) (np : Nat) (fn : List D → RC) : Prop where
  ex : ∃ (fa : Addr) (fdt : FuncData) (ps : List Str), ps.length = np ∧ Mk K (cl c) fa ∧ mg x = some (.ref (cl c)) ∧ FnOk P w K mg base (L2.CX P w) k fa fdt ps (spF K cl xc np fn) ∧ Binds K fdt ps []
/-- the attributes' facts of a class -/
structure ClA (K : PySem.W.Frag) (cl : Nat → Addr) (c : Nat) (fs : List Str) : Prop where
  cc : Cls K (cl c)
  n : ∀ f, f ∈ fs → NoAttr K (cl c) f
def insOk (c : Nat) (mn : Str) : D → Bool
  | .obj _ (.ins c' ns) _ => c' == c && !(ns.contains mn)
  | _ => false
def dFin (f : List D → RC) (as : List Ar) : List D → M → R D := fun ds m => match takeL as ds m with
  | none => .no
  | some (ds, m) => match f ds with
    | .ok d ds => .ok d (putL as ds m)
    | .ex c n ds => .ex c n (putL as ds m)
    | .no => .no
theorem dCall_fin (f : List D → RC) (as : List Ar) (m : M) : dCall f as m = (dArgs as m).bind (dFin f as) := rfl
def dMeth (c : Nat) (mn : Str) (f : List D → RC) (o : Ar) (as : List Ar) : M → R D := match o with
  | .l i => fun m => if insOk c mn (rd m i) then dCall f (.l i :: as) m else .no
  | .v g => fun m => (g m).bind fun x m => if insOk c mn x then (dArgs as m).bind fun xs m => dFin f (.v g :: as) (x :: xs) m else .no
/-- an instance is made: the callee gets it, and hands it back -/
def dMake (c : Nat) (f : List D → RC) (as : List Ar) : M → R D := fun m => (dArgs as m).bind fun ds m => match takeL as ds m with
  | none => .no
  | some (ds, m) => match f (.obj .own (.ins c []) [] :: ds) with
    | .ok .non (x :: ds) => .ok x (putL as ds m)
    | .ex c n (_ :: ds) => .ex c n (putL as ds m)
    | _ => .no
section
variable {K : PySem.W.Frag} {cl : Nat → Addr} {xc : XC} {W : WX} {F H : Hp} {φ : Type} {fd : φ → D} {fv : φ → V} {σ : St} {m : M} {lv : List V}
theorem lookup_no {f : Str} : ∀ {ns : List Str} {vs : List V}, ns.contains f = false → (ns.zip vs).lookup f = none
  | [], _, _ => rfl
  | n :: ns, [], _ => rfl
  | n :: ns, v :: vs, h => by
    rw [List.contains_cons] at h
    have h1 : (f == n) = false := by
      cases q : (f == n) with
      | true => rw [q] at h; cases h
      | false => rfl
    have h2 : ns.contains f = false := by
      rw [h1] at h; simpa using h
    rw [List.zip_cons_cons, List.lookup_cons, h1]
    exact lookup_no h2
theorem ins_at {d : D} {v : V} {fx : List Addr} {c : Nat} {mn : Str} (ex : Ex F H) (r : Rep K cl F H d v fx) (h : insOk c mn d = true) : ∃ a dx fs, v = .ref a ∧ H a = some (.ins (cl c) dx fs) ∧ fs.lookup mn = none := by
  unfold insOk at h
  split at h
  · rename_i o c' ns ds
    simp only [Bool.and_eq_true, Bool.not_eq_true', beq_iff_eq] at h
    obtain ⟨rfl, h2⟩ := h
    obtain ⟨a, vs, rfl, kr, _, _⟩ := r.opn ex
    obtain ⟨dx, hd, _⟩ := kr
    exact ⟨a, dx, _, rfl, hd, lookup_no h2⟩
  · cases h
end
section
variable {X : Cx} {cl : Nat → Addr} {xc : XC} {W : WX} {e o : Expr} {es : List Expr} {as : List Ar} {g : M → R D} {pos apos p : Pos} {x mn : Str} {c : Nat}
theorem tMeth_l {np : Nat} {fn : List D → RC} {C : Addr} (hC : C = cl c) {i : Nat} {t : TA} (hn : as.length + 1 = np) {σ : St} {H : Hp} {Q : VK}
    (ht : ∀ (σ : St) (H : Hp) (Q : List V → Hp → Prop), tAr X.K cl xc W as σ H Q → t σ H Q) (h : tE X.K cl xc W (dMeth c mn fn (.l i) as) σ H Q) : tMeth C mn (spF X.K cl xc np fn) [] (fun c d H' => W c d σ H') (tPl X.K cl i []) t σ H Q := by
  subst hC
  obtain ⟨φ, fd, fv, F, m, lv, r, q⟩ := h
  unfold dMeth at q
  cases ho : insOk c mn (rd m i) with
  | false => simp only [ho, Bool.false_eq_true, if_false] at q
  | true =>
    simp only [ho, if_true, dCall_fin] at q
    have hi : isAbs (rd m i) = false := by
      cases e : rd m i with
      | abs => rw [e] at ho; cases ho
      | _ => rfl
    unfold dArgs at q
    simp only [hi, Bool.false_eq_true, if_false] at q
    refine ⟨φ, fd, fv, F, m, lv, r, hi, [], _, _, rfl, rfl, ?_⟩
    obtain ⟨q1, q2⟩ := r.at hi
    obtain ⟨z, fx, va, rx⟩ := r.wf.peek (root φ m i) (p := []) (x := rd m i) (by rw [q1]; rfl)
    have va : z = _ := va
    subst va
    obtain ⟨a, dx, fs, e1, e2, e3⟩ := ins_at r.wf.ex rx ho
    refine ⟨a, dx, fs, e1, e2, e3, ht _ _ _ ?_⟩
    have r1 : Rel X.K cl (psh .abs fd) (psh (cV σ lv fv (root φ m i)) fv) F H σ m lv := r.push (r.wf.dup0 rfl)
    refine ⟨_, psh .abs fd, psh (cV σ lv fv (root φ m i)) fv, F, m, lv, r1, ?_⟩
    cases e2 : dArgs as m with
    | no => simp only [e2, R.bind] at q
    | ex c n m2 => simp only [e2, R.bind] at q ⊢; exact fun F2 H2 dx r2 => q F2 H2 dx r2.pop
    | ok xs m2 =>
      simp only [e2, R.bind] at q ⊢
      intro F2 H2 vs hl r2 hc
      rw [List.append_nil]
      refine call_post (as := .l i :: as) (ds := .abs :: xs) (by simp [hl]) (by simp [dArgs_len e2, hn]) r2.consTops (fun j i' hj => ?_) q
      cases j with
      | zero =>
        have hj : i = i' := by simpa using hj
        subst hj
        exact ⟨rfl, _, rfl, q2⟩
      | succ j => simpa using hc j i' (by simpa using hj)
theorem tMeth_v {np : Nat} {fn : List D → RC} {C : Addr} (hC : C = cl c) {t : TA} (hn : as.length + 1 = np) {σ : St} {H : Hp} {Q : VK}
    (ht : ∀ (σ : St) (H : Hp) (Q : List V → Hp → Prop), tAr X.K cl xc W as σ H Q → t σ H Q) (h : tE X.K cl xc W (dMeth c mn fn (.v g) as) σ H Q) : tMeth C mn (spF X.K cl xc np fn) [] (fun c d H' => W c d σ H') (tE X.K cl xc W g) t σ H Q := by
  subst hC
  refine tE_bind (f := g) h fun φ fd fv F H1 m lv v d r1 q => ?_
  cases ho : insOk c mn d with
  | false => simp only [ho, Bool.false_eq_true, if_false] at q
  | true =>
    simp only [ho, if_true] at q
    obtain ⟨fx, rx⟩ := r1.wf.toTop.topRep
    obtain ⟨a, dx, fs, e1, e2, e3⟩ := ins_at r1.wf.ex rx ho
    refine ⟨a, dx, fs, e1, e2, e3, ht _ _ _ ?_⟩
    refine ⟨_, psh d fd, psh v fv, F, m, lv, r1, ?_⟩
    cases e2 : dArgs as m with
    | no => simp only [e2, R.bind] at q
    | ex c n m2 => simp only [e2, R.bind] at q ⊢; exact fun F2 H2 dx r2 => q F2 H2 dx r2.pop
    | ok xs m2 =>
      simp only [e2, R.bind] at q ⊢
      intro F2 H2 vs hl r2 hc
      rw [List.append_nil]
      refine call_post (as := .v g :: as) (ds := d :: xs) (by simp [hl]) (by simp [dArgs_len e2, hn]) r2.consTops (fun j i' hj => ?_) q
      cases j with
      | zero => simp at hj
      | succ j => simpa using hc j i' (by simpa using hj)
theorem d_me {j k np : Nat} {fn : List D → RC} {i : Nat} {y : Str} {p0 : Pos} (tk : Takes X W) (G : Me X.prog X.w X.K X.mg X.base cl xc j c mn np fn) (hr : Room k X.A) (ho : PEl X cl (.Name y p0) i []) (ha : PAr X cl xc W (e :: es) as) (hjk : j ≤ k := by decide) (hn : as.length + 1 = np := by kernel_rfl)
    (hst : starEach (e :: es) X.env = (false, eval e X.env) :: starEach es X.env := by kernel_rfl) (hpl : (backTo pos (starEach es X.env)).any (·.1) = false := by kernel_rfl)
    (ht : eval (.Call (.Attribute (.Name y p0) mn apos) (e :: es) [] pos) X.env = (do
      let ov ← eval (.Name y p0) X.env
      standAt apos.atName
      let (f, first) ← holding [ov] (getMethod ov mn (do return (← importBound (.Name y p0) X.env).getD true))
      callWith pos f first (backTo pos (starEach (e :: es) X.env)) (backToKw pos (keywordEach [] X.env))) := by kernel_rfl) :
    PEd X cl xc W (.Call (.Attribute (.Name y p0) mn apos) (e :: es) [] pos) (dMeth c mn fn (.l i) as) := by
  obtain ⟨fa, fdt, ps, rfl, hc, hm, G, hb⟩ := G
  exact pe_imp (pe_methSD (E := fun σ c d H' => W c d σ H') ho hc hm G (hr.mono hjk) hb .nil (fun σ => passAt tk σ) ha hst hpl ht) fun σ H Q h => tMeth_l rfl hn (fun _ _ _ z => z) h
theorem d_me0 {j k : Nat} {fn : List D → RC} {i : Nat} {y : Str} {p0 : Pos} (tk : Takes X W) (G : Me X.prog X.w X.K X.mg X.base cl xc j c mn 1 fn) (hr : Room k X.A) (ho : PEl X cl (.Name y p0) i []) (hjk : j ≤ k := by decide)
    (ht : eval (.Call (.Attribute (.Name y p0) mn apos) [] [] pos) X.env = (do
      let ov ← eval (.Name y p0) X.env
      standAt apos.atName
      let (f, first) ← holding [ov] (getMethod ov mn (do return (← importBound (.Name y p0) X.env).getD true))
      callWith pos f first (backTo pos (starEach [] X.env)) (backToKw pos (keywordEach [] X.env))) := by kernel_rfl) :
    PEd X cl xc W (.Call (.Attribute (.Name y p0) mn apos) [] [] pos) (dMeth c mn fn (.l i) []) := by
  obtain ⟨fa, fdt, ps, hps, hc, hm, G, hb⟩ := G
  exact pe_imp (pe_methSD0 (E := fun σ c d H' => W c d σ H') ho hc hm G (hr.mono hjk) hb .nil (fun σ => passAt tk σ) ht) fun σ H Q h => tMeth_l (as := []) rfl rfl (fun _ _ _ z => ar_nil_t z) h
where
  ar_nil_t {X : Cx} {cl : Nat → Addr} {xc : XC} {W : WX} {σ : St} {H : Hp} {Q : List V → Hp → Prop} (z : tAr X.K cl xc W [] σ H Q) : tNil σ H Q := by
    obtain ⟨φ, fd, fv, F, m, lv, r, q⟩ := z
    exact q F H [] rfl (r.tops r.wf.noTops) (fun j i h => by simp at h)
theorem d_mv1 {j k np : Nat} {fn : List D → RC} (tk : Takes X W) (G : Me X.prog X.w X.K X.mg X.base cl xc j c mn np fn) (hr : Room k X.A) (ho : PEd X cl xc W o g) (ha : PAr X cl xc W (e :: es) as) (hjk : j ≤ k := by decide) (hn : as.length + 1 = np := by kernel_rfl)
    (hst : starEach (e :: es) X.env = (false, eval e X.env) :: starEach es X.env := by kernel_rfl) (hpl : (backTo pos (starEach es X.env)).any (·.1) = false := by kernel_rfl)
    (ht : eval (.Call (.Attribute o mn apos) (e :: es) [] pos) X.env = (do
      let ov ← eval o X.env
      standAt apos.atName
      let (f, first) ← holding [ov] (getMethod ov mn (do return (← importBound o X.env).getD true))
      callWith pos f first (backTo pos (starEach (e :: es) X.env)) (backToKw pos (keywordEach [] X.env))) := by kernel_rfl) :
    PEd X cl xc W (.Call (.Attribute o mn apos) (e :: es) [] pos) (dMeth c mn fn (.v g) as) := by
  obtain ⟨fa, fdt, ps, rfl, hc, hm, G, hb⟩ := G
  exact pe_imp (pe_methSD (E := fun σ c d H' => W c d σ H') ho hc hm G (hr.mono hjk) hb .nil (fun σ => passAt tk σ) ha hst hpl ht) fun σ H Q h => tMeth_v rfl hn (fun _ _ _ z => z) h
theorem d_mv0 {j k : Nat} {fn : List D → RC} (tk : Takes X W) (G : Me X.prog X.w X.K X.mg X.base cl xc j c mn 1 fn) (hr : Room k X.A) (ho : PEd X cl xc W o g) (hjk : j ≤ k := by decide)
    (ht : eval (.Call (.Attribute o mn apos) [] [] pos) X.env = (do
      let ov ← eval o X.env
      standAt apos.atName
      let (f, first) ← holding [ov] (getMethod ov mn (do return (← importBound o X.env).getD true))
      callWith pos f first (backTo pos (starEach [] X.env)) (backToKw pos (keywordEach [] X.env))) := by kernel_rfl) :
    PEd X cl xc W (.Call (.Attribute o mn apos) [] [] pos) (dMeth c mn fn (.v g) []) := by
  obtain ⟨fa, fdt, ps, hps, hc, hm, G, hb⟩ := G
  exact pe_imp (pe_methSD0 (E := fun σ c d H' => W c d σ H') ho hc hm G (hr.mono hjk) hb .nil (fun σ => passAt tk σ) ht) fun σ H Q h => tMeth_v (as := []) rfl rfl (fun _ _ _ z => d_me0.ar_nil_t z) h
end
end Rf
namespace Rf
open PySem L2
section
variable {K : PySem.W.Frag} {cl : Nat → Addr} {F H : Hp} {ι : Type} {rd : ι → D} {rv : ι → V}
theorem WF.consTop' {d : D} {v : V} {ds : List D} {vs : List V} (w : WF K cl F H (psh d (pshs .abs ds rd)) (psh v (pshs .non vs rv))) : WF K cl F H (pshs .abs (d :: ds) rd) (pshs .non (v :: vs) rv) := by
  refine w.map (fun a => match a with | .inl 0 => some none | .inl (i + 1) => some (some (.inl i)) | .inr r => some (some (.inr r))) (fun a b r h1 h2 => ?_) (fun a r h => ?_) (fun a h => ?_)
  · have e := h1.trans h2.symm
    rcases a with (_ | a) | a <;> rcases b with (_ | b) | b <;> first | rfl | (simp at e; done) | (simp at e; subst e; rfl)
  · rcases a with (_ | a) | a <;> (cases h; exact ⟨rfl, rfl⟩)
  · rcases a with (_ | a) | a <;> cases h
/-- a new instance without attributes -/
theorem WF.newIns {c : Nat} {x dx : Addr} (w : WF K cl F H rd rv) (hx : H x = none) (hd : H dx = none) (ne : dx ≠ x) : WF K cl F (upd (upd H dx (.own x)) x (.ins (cl c) dx [])) (psh (.obj .own (.ins c []) []) rd) (psh (.ref x) rv) :=
  WF.node (ds := []) (vs := []) (k := .ins c []) (u := .ins (cl c) dx []) (w.grow (ex_new hd)).noTops rfl (by rw [upd_ne (Ne.symm ne)]; exact hx) ⟨dx, rfl, rfl⟩
end
section
variable {X : Cx} {cl : Nat → Addr} {xc : XC} {W : WX} {as : List Ar} {c : Nat}
theorem make_post {fn : List D → RC} {np : Nat} {σ : St} {Q : VK} {φ : Type} {fd : φ → D} {fv : φ → V} {F H : Hp} {m : M} {lv : List V} {ds : List D} {vs : List V} (hl : vs.length = ds.length) (hnp : ds.length + 1 = np)
    (r : Rel X.K cl (pshs .abs ds fd) (pshs .non vs fv) F H σ m lv) (hc : ∀ (j i : Nat), as[j]? = some (.l i) → ds[j]? = some .abs ∧ ∃ v, vs[j]? = some v ∧ σ[i]? = some (some v))
    (q : match (match takeL as ds m with
      | none => .no
      | some (ds, m) => match fn (.obj .own (.ins c []) [] :: ds) with
        | .ok .non (x :: ds) => .ok x (putL as ds m)
        | .ex c n (_ :: ds) => .ex c n (putL as ds m)
        | _ => .no : R D) with
      | .ok d m' => ∀ (F' H' : Hp) (v : V), Rel X.K cl (psh d fd) (psh v fv) F' H' σ m' lv → Q v H'
      | .ex c n m' => ∀ (F' H' : Hp) (dx : Option Addr), Rel X.K cl fd fv F' H' σ m' lv → ExcAt xc c n dx H' → W (.ref (xc.cls c)) dx σ H'
      | .no => False) {x dx : Addr} (hx : H x = none) (hd : H dx = none) (ne : dx ≠ x) :
    spF X.K cl xc np fn (.ref x :: vs) (upd (upd H dx (.own x)) x (.ins (cl c) dx [])) (fun v H2 => v = .non ∧ Q (.ref x) H2) (fun c d H' => W c d σ H') := by
  cases et : takeL as ds m with
  | none => simp only [et] at q
  | some z =>
    obtain ⟨ds1, m1⟩ := z
    simp only [et] at q
    obtain ⟨r1, hm, hd1, has⟩ := take_ok as [] ds m ds1 m1 et (by simpa using r) (fun j i h => by simpa using hc j i h)
    have r1 : Rel X.K cl (pshs .abs ds1 fd) (pshs .non vs fv) F H σ m1 lv := by simpa using r1
    have lt : ∀ (j i : Nat), as[j]? = some (.l i) → i < m1.sl.length ∧ ∃ v, vs[j]? = some v ∧ σ[i]? = some (some v) := fun j i h => by
      obtain ⟨_, v, h1, h2⟩ := hc j i h
      have : i < σ.length := (List.getElem?_eq_some_iff.mp h2).1
      rw [r1.sl] at this
      exact ⟨this, v, h1, h2⟩
    refine ⟨Ix φ, cD m1 fd, cV σ lv fv, F, .obj .own (.ins c []) [] :: ds1, by simp; omega, by simp; omega, (r1.wf.toTops.newIns hx hd ne).consTop', ?_⟩
    cases ef : fn (.obj .own (.ins c []) [] :: ds1) with
    | no => simp only [ef] at q
    | ok d dsx =>
      simp only [ef] at q
      cases d with
      | non =>
        cases dsx with
        | nil => simp only at q
        | cons x' ds2 =>
          simp only at q
          intro F' H' v hl2 w
          obtain ⟨fx, rx⟩ := w.topRep
          refine ⟨rx.1, q F' H' (.ref x) ?_⟩
          have r2 : Rel X.K cl (pshs .abs ds2 (psh x' fd)) (pshs .non vs (psh (.ref x) fv)) F' H' σ m1 lv := by
            refine ⟨w.map (fun a => match a with | .fr (.inl i) => some (some (.inl (i + 1))) | .fr (.inr none) => some (some (.inl 0)) | .fr (.inr (some r)) => some (some (.inr (.fr r))) | .l k => some (some (.inr (.l k))) | .s i => some (some (.inr (.s i)))) (fun a b r h1 h2 => ?_) (fun a r h => ?_) (fun a h => ?_), r1.ll, r1.sl, r1.vs, r1.vl⟩
            · have e := h1.trans h2.symm
              rcases a with (a | (_ | a)) | a | a <;> rcases b with (b | (_ | b)) | b | b <;> first | rfl | (simp at e; done) | (simp at e; subst e; rfl)
            · rcases a with (a | (_ | a)) | a | a <;> (cases h; exact ⟨rfl, rfl⟩)
            · rcases a with (a | (_ | a)) | a | a <;> cases h
          have hl2 : ds2.length + 1 = np := by simpa using hl2
          exact put_ok as [] ds2 m1 (by simpa using r2) (by omega) (fun j i h => by simpa using lt j i h)
      | _ => simp only at q
    | ex c n dsx =>
      simp only [ef] at q
      cases dsx with
      | nil => simp only at q
      | cons x' ds2 =>
        simp only at q
        intro F' H' dx' hl2 w hx'
        refine q F' H' dx' ?_ hx'
        have r2 : Rel X.K cl (pshs .abs ds2 fd) (pshs .non vs fv) F' H' σ m1 lv := by
          refine ⟨w.map (fun a => match a with | .fr (.inl i) => some (.inl (i + 1)) | .fr (.inr r) => some (.inr (.fr r)) | .l k => some (.inr (.l k)) | .s i => some (.inr (.s i))) (fun a b r h1 h2 => ?_) (fun a r h => ?_) (fun a h => ?_), r1.ll, r1.sl, r1.vs, r1.vl⟩
          · have e := h1.trans h2.symm
            rcases a with (a | a) | a | a <;> rcases b with (b | b) | b | b <;> first | rfl | (simp at e; done) | (simp at e; subst e; rfl)
          · rcases a with (a | a) | a | a <;> (cases h; exact ⟨rfl, rfl⟩)
          · rcases a with (a | a) | a | a <;> cases h
        have hl2 : ds2.length + 1 = np := by simpa using hl2
        exact put_ok as [] ds2 m1 (by simpa using r2) (by omega) (fun j i h => by simpa using lt j i h)
end
section
variable {X : Cx} {cl : Nat → Addr} {xc : XC} {W : WX} {e : Expr} {es : List Expr} {as : List Ar} {pos p : Pos} {x : Str} {c : Nat}
theorem d_mk {j k np : Nat} {fn : List D → RC} (tk : Takes X W) (G : Ma X.prog X.w X.K X.mg X.base cl xc j c x np fn) (hr : Room k X.A) (ha : PAr X cl xc W (e :: es) as) (hjk : j + 1 ≤ k := by decide) (hn : as.length + 1 = np := by kernel_rfl) (hg : X.env.kindOf x = some .globalImplicit := by kernel_rfl)
    (hdb : (x == ("__debug__" : Str)) = false := by kernel_rfl) (he : starEach (e :: es) X.env = (false, eval e X.env) :: starEach es X.env := by kernel_rfl) (hpl : (backTo pos (starEach es X.env)).any (·.1) = false := by kernel_rfl) :
    PEd X cl xc W (.Call (.Name x p) (e :: es) [] pos) (dMake c fn as) := by
  obtain ⟨fa, fdt, ps, rfl, hM, hm, G, hb⟩ := G
  refine pe_imp (pe_makeSD (E := fun σ c d H' => W c d σ H') hM G (hr.mono hjk) hg hm hb .nil (fun σ => passAt tk σ) ha hdb he hpl) fun σ H Q ⟨φ, fd, fv, F, m, lv, r, q⟩ => ?_
  refine ⟨φ, fd, fv, F, m, lv, r, ?_⟩
  unfold dMake at q
  cases ed : dArgs as m with
  | no => simp only [ed, R.bind] at q
  | ex c n m1 => simp only [ed, R.bind] at q ⊢; exact q
  | ok ds m1 =>
    simp only [ed, R.bind] at q ⊢
    intro F1 H1 vs hl r1 hc x dx hx hd ne
    rw [List.append_nil]
    exact make_post hl (by rw [dArgs_len ed, hn]) r1 hc q hx hd ne
theorem d_mk0 {j k : Nat} {fn : List D → RC} (tk : Takes X W) (G : Ma X.prog X.w X.K X.mg X.base cl xc j c x 1 fn) (hr : Room k X.A) (hjk : j + 1 ≤ k := by decide) (hg : X.env.kindOf x = some .globalImplicit := by kernel_rfl)
    (hdb : (x == ("__debug__" : Str)) = false := by kernel_rfl) :
    PEd X cl xc W (.Call (.Name x p) [] [] pos) (dMake c fn []) := by
  obtain ⟨fa, fdt, ps, hps, hM, hm, G, hb⟩ := G
  refine ⟨fun pins s σ H Q I h => ?_⟩
  refine wpAny_Call_Name_kw (ld_glob I hg hm ?_ hdb)
  obtain ⟨φ, fd, fv, F, m, lv, r, q⟩ := h
  exact PySem.W.callWith_K0 I.kIn hM.kp (run_makeSD (us := []) (vs := []) (E := fun σ c d H' => W c d σ H') hM G (hr.mono hjk) hb .nil (passAt tk σ) I .nil (fun x dx hx hd ne => make_post (as := []) (ds := []) (vs := []) rfl rfl (r.tops r.wf.noTops) (fun j i h => by simp at h) q hx hd ne))
end
@[simp] theorem dMeth_l (c : Nat) (mn : Str) (f : List D → RC) (i : Nat) (as : List Ar) (m : M) : dMeth c mn f (.l i) as m = if insOk c mn (rd m i) then dCall f (.l i :: as) m else .no := rfl
@[simp] theorem dMeth_v (c : Nat) (mn : Str) (f : List D → RC) (g : M → R D) (as : List Ar) (m : M) : dMeth c mn f (.v g) as m = ((g m).bind fun x m => if insOk c mn x then (dArgs as m).bind fun xs m => dFin f (.v g :: as) (x :: xs) m else .no) := rfl
@[simp] theorem dMake_ap (c : Nat) (f : List D → RC) (as : List Ar) (m : M) : dMake c f as m = ((dArgs as m).bind fun ds m => match takeL as ds m with
  | none => .no
  | some (ds, m) => match f (.obj .own (.ins c []) [] :: ds) with
    | .ok .non (x :: ds) => .ok x (putL as ds m)
    | .ex c n (_ :: ds) => .ex c n (putL as ds m)
    | _ => .no) := rfl
@[simp] theorem dFin_ap (f : List D → RC) (as : List Ar) (ds : List D) (m : M) : dFin f as ds m = (match takeL as ds m with
  | none => .no
  | some (ds, m) => match f ds with
    | .ok d ds => .ok d (putL as ds m)
    | .ex c n ds => .ex c n (putL as ds m)
    | .no => .no) := rfl
@[simp] theorem insOk_i (c c' : Nat) (mn : Str) (o : Ow) (ns : List Str) (ds : List D) : insOk c mn (.obj o (.ins c' ns) ds) = (c' == c && !(ns.contains mn)) := rfl
end Rf
namespace Rf
open PySem L2
theorem putF_at {f : Str} {y : V} : ∀ {ns : List Str} {vs : List V} {j : Nat}, ns.findIdx? (fun x => decide (x = f)) = some j → ns.length = vs.length → putF f y (ns.zip vs) = ns.zip (vs.set j y)
  | [], _, _, h, _ => by simp at h
  | n :: ns, [], _, _, hl => by simp at hl
  | n :: ns, v :: vs, j, h, hl => by
    rw [List.findIdx?_cons] at h
    by_cases e : n = f
    · simp only [e, decide_true, if_true] at h
      cases h
      subst e
      simp [putF]
    · simp only [e, decide_false, Bool.false_eq_true, if_false] at h
      cases h2 : ns.findIdx? (fun x => decide (x = f)) with
      | none => rw [h2] at h; cases h
      | some k =>
        rw [h2] at h
        cases h
        have := putF_at (y := y) h2 (vs := vs) (by simpa using hl)
        simp [putF, e, this]
theorem putF_new {f : Str} {y : V} : ∀ {ns : List Str} {vs : List V}, ns.findIdx? (fun x => decide (x = f)) = none → ns.length = vs.length → putF f y (ns.zip vs) = (ns ++ [f]).zip (vs ++ [y])
  | [], [], _, _ => rfl
  | [], _ :: _, _, hl => by simp at hl
  | n :: ns, [], _, hl => by simp at hl
  | n :: ns, v :: vs, h, hl => by
    rw [List.findIdx?_cons] at h
    by_cases e : n = f
    · simp [e] at h
    · simp only [e, decide_false, Bool.false_eq_true, if_false] at h
      cases h2 : ns.findIdx? (fun x => decide (x = f)) with
      | some k => rw [h2] at h; cases h
      | none =>
        have := putF_new (y := y) h2 (vs := vs) (by simpa using hl)
        simp [putF, e, this]
theorem Reps.set1 {K : PySem.W.Frag} {cl : Nat → Addr} {F H : Hp} {ds : List D} {vs : List V} {fps f' : List Addr} {j : Nat} {d : D} {v : V} (hj : j < ds.length) (rs : Reps K cl F H ds vs fps) (rv : Rep K cl F H d v f') (nd : (fps ++ f').Nodup) : ∃ fq, Reps K cl F H (ds.set j d) (vs.set j v) fq ∧ fq.Nodup ∧ ∀ b, b ∈ fq → b ∈ fps ++ f' := by
  obtain ⟨w1, f1, fm, f2, hw1, ry, efp, back⟩ := Reps.at rs (List.getElem?_eq_getElem hj)
  subst efp
  have nd1 := (List.nodup_append.mp nd)
  obtain ⟨n1, n2, n3⟩ := nodup_mid nd1.1
  refine ⟨f1 ++ f' ++ f2, back (Ex.refl F) (fun b hb => ⟨(Reps.fp _ rs b (by simp at hb ⊢; rcases hb with h | h <;> simp [h])).1, rfl⟩) rv, nodup_mk nd1.2.1 (fun b hb => ⟨fun h => ?_, fun h => ?_⟩) n3, fun b hb => ?_⟩
  · exact nd1.2.2 b (by simp [h]) b hb rfl
  · exact nd1.2.2 b (by simp [h]) b hb rfl
  · simp at hb ⊢; rcases hb with h | h | h <;> simp [h]
/-- o.path.append(x): a scalar; a name's thing -/
def dAppS (i : Nat) (ps : List Stp) (s : SF) : M → R Fl := fun m => match resolve m (rd m i) ps, s m with
  | some (p, .obj .own .lst xs), some d => if xs.length < sizeLine ∧ isSc d = true ∧ down (rd m i) p = true then .ok .nx (wr m i (dput (rd m i) p (.obj .own .lst (xs ++ [d])))) else .no
  | _, _ => .no
def dAppV (i : Nat) (ps : List Stp) (j : Nat) : M → R Fl := fun m => (dVar j m).bind fun d m => match resolve m (rd m i) ps with
  | some (p, .obj .own .lst xs) => if xs.length < sizeLine ∧ down (rd m i) p = true then .ok .nx (wr m i (dput (rd m i) p (.obj .own .lst (xs ++ [d])))) else .no
  | _ => .no
section
variable {X : Cx} {cl : Nat → Addr} {xc : XC} {W : WX} {e o : Expr} {f : M → R D} {pos apos pos' p1 : Pos} {i : Nat} {ps : List Stp} {s : SF} {a : Str} {cs : List Nat}
theorem st_setA (ho : PEl X cl o i ps) (he : PEd X cl xc W e f) (hc : ∀ c, cs.contains c = true → Cls X.K (cl c) ∧ NoAttr X.K (cl c) a) (hs : swapsWith e (some (.Attribute o a p1)) pos.line X.env = pure false := by kernel_rfl) :
    PSd X cl xc W (.Assign [.Attribute o a p1] e pos) (dSetA i ps cs a f) :=
  ps_imp (ps_fld ho he hs) fun Dn σ H hq => tS_E hq fun φ fd fv F H1 m lv x d r q => by
    split at q
    · rename_i p c ns ds er
      split at q
      · rename_i h4
        obtain ⟨hdn, hcs, hz, hnl⟩ := h4
        have hg := resolve_get er
        have hi0 := vat_of r hg (by simp)
        obtain ⟨A, vs, u, f', va, ha', hu, hlen, rv, put⟩ := r.mutAt hi0 hg hdn
        obtain ⟨dx, hu, hl2⟩ := hu
        subst hu
        refine ⟨φ, fd, fv, F, m, lv, r.pop, hi0, p, _, _, er, va, A, cl c, dx, _, rfl, ha', (hc c hcs).1, (hc c hcs).2, by rw [List.length_zip]; omega, ?_⟩
        unfold putN at q
        cases ej : ns.findIdx? (fun x => decide (x = a)) with
        | some j =>
          simp only [ej] at q
          have hj : j < ds.length := by
            have := (List.findIdx?_eq_some_iff_getElem.mp ej).1
            omega
          rw [putF_at ej hl2]
          exact q F _ σ (put _ (.ins c ns) (ds.set j d) (vs.set j x) ⟨dx, rfl, by simp [hl2]⟩ fun fps rs nd => rs.set1 hj rv nd)
        | none =>
          simp only [ej] at q
          rw [putF_new ej hl2]
          exact q F _ σ (put _ (.ins c (ns ++ [a])) (ds ++ [d]) (vs ++ [x]) ⟨dx, rfl, by simp [hl2]⟩ fun fps rs nd => ⟨fps ++ f', rs.app (Reps.one rv), nd, fun b h => h⟩)
      · exact q.elim
    · exact q.elim
theorem path_ty {φ : Type} {fd : φ → D} {fv : φ → V} {F H : Hp} {σ : St} {m : M} {lv : List V} (r : Rel X.K cl fd fv F H σ m lv) {a : Addr} {vs : List V} (h : H a = some (.lst vs)) : tyV X.K "list" (.ref a) H := .inl ⟨rfl, _, SqL.of h⟩
theorem st_appS (ho : PEl X cl o i ps) (he : PEs X cl e s) (hbase : attributeBase o "append" X.env (eval o X.env) = eval o X.env := by kernel_rfl)
    (hfew : ((backTo pos (starEach [e] X.env)).all (fun x => !x.1) && (backToKw pos (keywordEach [] X.env)).all (fun x => x.1.isSome) && decide ([e].length + ([] : List Keyword).length + (if ([] : List Keyword).isEmpty then 0 else 1) < 30)) = true := by kernel_rfl)
    (hline : (apos.endLine == pos.line) = true := by kernel_rfl) (hss : starEach [e] X.env = (false, eval e X.env) :: starEach [] X.env := by kernel_rfl) (hplain : (backTo pos (starEach [] X.env)).any (·.1) = false := by kernel_rfl)
    (hs : swapsWith (.Call (.Attribute o "append" apos) [e] [] pos) none pos'.line X.env = pure false := by kernel_rfl) :
    PSd X cl xc W (.Expr (.Call (.Attribute o "append" apos) [e] [] pos) pos') (dAppS i ps s) :=
  ps_imp (ps_expr (pe_bm PySem.F.plainAttrs_list PySem.F.slot_list_append PySem.F.type_list_append mt_append ho (pa_cons he pa_nil hss) hbase hfew hline hss hplain) hs) fun Dn σ H hq => by
    obtain ⟨φ, fd, fv, F, m, lv, r, q⟩ := tS_post.mp hq
    unfold dAppS at q
    split at q
    · rename_i p xs d er es
      split at q
      · rename_i h3
        obtain ⟨hz, hd, hdn⟩ := h3
        have hg := resolve_get er
        have hi0 := vat_of r hg (by simp)
        have r1 : Rel X.K cl (psh d fd) (psh (vOf d) fv) F H σ m lv := r.push (r.wf.dup0 (scal_v hd).rep)
        obtain ⟨A, vs, u, f', va, ha', hu, hlen, rv, put⟩ := r1.mutAt hi0 hg hdn
        have hu : u = .lst vs := hu
        subst hu
        refine ⟨φ, fd, fv, F, m, lv, r, hi0, p, _, _, er, va, path_ty r ha', φ, fd, fv, F, m, lv, r, d, es, hd, fun v hv => ?_⟩
        have ev := scal_of hd hv (scal_v hd)
        subst ev
        refine ⟨A, vs, _, rfl, rfl, ha', by omega, ?_⟩
        exact q F _ σ (put (.lst (vs ++ [vOf d])) .lst (xs ++ [d]) (vs ++ [vOf d]) rfl fun fps rs nd => ⟨fps ++ f', rs.app (Reps.one rv), nd, fun b h => h⟩)
      · exact q.elim
    · exact q.elim
theorem dVar_h {K : PySem.W.Frag} {φ : Type} {fd : φ → D} {fv : φ → V} {F H : Hp} {σ : St} {m m1 : M} {lv : List V} {j : Nat} {d : D} (r : Rel K cl fd fv F H σ m lv) (h : dVar j m = .ok d m1) : ∃ F' v, σ[j]? = some (some v) ∧ Rel K cl (psh d fd) (psh v fv) F' H σ m1 lv := by
  unfold dVar at h
  cases ed : rd m j with
  | abs => simp only [ed] at h; cases h
  | obj o k ds =>
    have hi : isAbs (rd m j) = false := by rw [ed]; rfl
    obtain ⟨q1, q2⟩ := r.at hi
    rw [ed] at q1
    cases o with
    | own =>
      simp only [ed] at h
      cases h
      obtain ⟨F', w'⟩ := r.wf.read (root φ m j)
      rw [q1] at w'
      exact ⟨F', _, q2, (r.wr hi w'.pop).push (by rw [cD_wr r hi]; exact w')⟩
    | shr =>
      simp only [ed] at h
      cases h
      obtain ⟨z, va, w'⟩ := r.wf.copyAt (root φ m j) (p := []) (x := .obj .shr k ds) (by rw [q1]; rfl) rfl
      have va : z = _ := va
      subst va
      exact ⟨F, _, q2, r.push w'⟩
    | con =>
      simp only [ed] at h
      cases h
      obtain ⟨z, va, w'⟩ := r.wf.copyAt (root φ m j) (p := []) (x := .obj .con k ds) (by rw [q1]; rfl) rfl
      have va : z = _ := va
      subst va
      exact ⟨F, _, q2, r.push w'⟩
  | _ =>
    have hi : isAbs (rd m j) = false := by rw [ed]; rfl
    obtain ⟨q1, q2⟩ := r.at hi
    rw [ed] at q1
    simp only [ed] at h
    cases h
    obtain ⟨z, va, w'⟩ := r.wf.copyAt (root φ m j) (p := []) (by rw [q1]; rfl) rfl
    have va : z = _ := va
    subst va
    exact ⟨F, _, q2, r.push w'⟩
theorem st_appV {j : Nat} {y : Str} {p2 : Pos} (ho : PEl X cl o i ps) (hN : X.N[j]? = some y := by kernel_rfl) (hv : visB X.env.scope y = true := by kernel_rfl) (hbase : attributeBase o "append" X.env (eval o X.env) = eval o X.env := by kernel_rfl)
    (hfew : ((backTo pos (starEach [.Name y p2] X.env)).all (fun x => !x.1) && (backToKw pos (keywordEach [] X.env)).all (fun x => x.1.isSome) && decide ([Expr.Name y p2].length + ([] : List Keyword).length + (if ([] : List Keyword).isEmpty then 0 else 1) < 30)) = true := by kernel_rfl)
    (hline : (apos.endLine == pos.line) = true := by kernel_rfl) (hss : starEach [.Name y p2] X.env = (false, eval (.Name y p2) X.env) :: starEach [] X.env := by kernel_rfl) (hplain : (backTo pos (starEach [] X.env)).any (·.1) = false := by kernel_rfl)
    (hs : swapsWith (.Call (.Attribute o "append" apos) [.Name y p2] [] pos) none pos'.line X.env = pure false := by kernel_rfl) :
    PSd X cl xc W (.Expr (.Call (.Attribute o "append" apos) [.Name y p2] [] pos) pos') (dAppV i ps j) :=
  ps_imp (ps_expr (pe_bm PySem.F.plainAttrs_list PySem.F.slot_list_append PySem.F.type_list_append mt_append ho (pa_cons (pe_var hN (vis_of hv).1 (vis_of hv).2.1 (vis_of hv).2.2) pa_nil hss) hbase hfew hline hss hplain) hs) fun Dn σ H hq => by
    obtain ⟨φ, fd, fv, F, m, lv, r, q⟩ := tS_post.mp hq
    unfold dAppV at q
    cases ev : dVar j m with
    | no => rw [ev] at q; exact q.elim
    | ex c n m1 =>
      unfold dVar at ev
      split at ev <;> cases ev
    | ok d m1 =>
      rw [ev] at q
      simp only [R.bind_ok] at q
      obtain ⟨F', v, hv, r1⟩ := dVar_h r ev
      split at q
      · rename_i p xs er
        split at q
        · rename_i h3
          obtain ⟨hz, hdn⟩ := h3
          have hg := resolve_get er
          have hi0 := vat_of r1 hg (by simp)
          obtain ⟨A, vs, u, f', va, ha', hu, hlen, rv, put⟩ := r1.mutAt hi0 hg hdn
          have hu : u = .lst vs := hu
          subst hu
          refine ⟨φ, fd, fv, F', m1, lv, r1.pop, hi0, p, _, _, er, va, path_ty r1 ha', v, hv, A, vs, v, rfl, rfl, ha', by omega, ?_⟩
          exact q F' _ σ (put (.lst (vs ++ [v])) .lst (xs ++ [d]) (vs ++ [v]) rfl fun fps rs nd => ⟨fps ++ f', rs.app (Reps.one rv), nd, fun b h => h⟩)
        · exact q.elim
      · exact q.elim
theorem l_f (ha : PEl X cl o i ps) (hc : ∀ c, cs.contains c = true → Cls X.K (cl c) ∧ NoAttr X.K (cl c) a) (hb : attributeBase o a X.env (eval o X.env) = eval o X.env := by kernel_rfl) : PEl X cl (.Attribute o a pos) i (ps ++ [.fld cs a]) := l_fld ha hc hb
theorem cl_one {K : PySem.W.Frag} {c : Nat} {fs : List Str} (h : ClA K cl c fs) {a : Str} (hin : fs.contains a = true := by kernel_rfl) : ∀ c', [c].contains c' = true → Cls K (cl c') ∧ NoAttr K (cl c') a := fun c' h' => by
  have : c' = c := by simpa using h'
  subst this
  exact ⟨h.cc, h.n a (by simpa using hin)⟩
end
@[simp] theorem dAppS_ap (i : Nat) (ps : List Stp) (s : SF) (m : M) : dAppS i ps s m = (match resolve m (rd m i) ps, s m with
  | some (p, .obj .own .lst xs), some d => if xs.length < sizeLine ∧ isSc d = true ∧ down (rd m i) p = true then .ok .nx (wr m i (dput (rd m i) p (.obj .own .lst (xs ++ [d])))) else .no
  | _, _ => .no) := rfl
@[simp] theorem dAppV_ap (i : Nat) (ps : List Stp) (j : Nat) (m : M) : dAppV i ps j m = ((dVar j m).bind fun d m => match resolve m (rd m i) ps with
  | some (p, .obj .own .lst xs) => if xs.length < sizeLine ∧ down (rd m i) p = true then .ok .nx (wr m i (dput (rd m i) p (.obj .own .lst (xs ++ [d])))) else .no
  | _ => .no) := rfl
end Rf
namespace Rf
open PySem L2
open PyProof.Rows (envOfC)
/-- a statement of a class's block -/
def clsM (s : Stmt) (j : Nat) : Stmt := match s with
  | .ClassDef _ _ _ b _ _ _ _ _ _ p => b.getD j (.Pass p)
  | s => s
section
variable {P : Program} {w : World} {K : PySem.W.Frag} {mg : Str → Option Value} {base : Heap} {cl : Nat → Addr} {xc : XC}
theorem me_def {x qual : Str} {params : Arguments} {body : List Stmt} {scope : Scope} {kws : List (Str × V)} {f : Addr} {fd : FuncData} {N ps : List Str} {k c : Nat} {b : M → R Fl} (F : FunD K x qual params body scope [] kws f fd) (hc : Cls K (cl c)) (hm : Meth K (cl c) x f) (S : FnScope N ps scope)
    (hbi : ∀ (kV doc pm : Value) (an : Option Addr) (cdv ct : Value) (us : List Value), us.length = ps.length → bindArgs (PySem.W.fnOf x qual params body scope .none kV doc pm an cdv ct) ⟨us, []⟩ = pure (ps.zip us))
    (hb : ∀ (cdv : Value) (A : Around) (outer : List Env) (s : Shared) (H : Hp) (E : XK), Room k (A.deeper (envOfC qual scope s.heap.objs.size f cdv)) → PSsd (cxOf (L2.CX P w) P w K mg base N qual scope f cdv A outer s H E) cl xc (fun c d _ H => E c d H) body b) :
    Me P w K mg base cl xc (k + 1) c x ps.length (runB ps.length N.length b) := ⟨f, fd, ps, rfl, hc, hm, fn_def F S hb, F.bindsN hbi⟩
theorem ma_def {x y qual : Str} {params : Arguments} {body : List Stmt} {scope : Scope} {kws : List (Str × V)} {f : Addr} {fd : FuncData} {N ps : List Str} {k c : Nat} {b : M → R Fl} (F : FunD K x qual params body scope [] kws f fd) (hM : Mk K (cl c) f) (hm : mg y = some (.ref (cl c))) (S : FnScope N ps scope)
    (hbi : ∀ (kV doc pm : Value) (an : Option Addr) (cdv ct : Value) (us : List Value), us.length = ps.length → bindArgs (PySem.W.fnOf x qual params body scope .none kV doc pm an cdv ct) ⟨us, []⟩ = pure (ps.zip us))
    (hb : ∀ (cdv : Value) (A : Around) (outer : List Env) (s : Shared) (H : Hp) (E : XK), Room k (A.deeper (envOfC qual scope s.heap.objs.size f cdv)) → PSsd (cxOf (L2.CX P w) P w K mg base N qual scope f cdv A outer s H E) cl xc (fun c d _ H => E c d H) body b) :
    Ma P w K mg base cl xc (k + 1) c y ps.length (runB ps.length N.length b) := ⟨f, fd, ps, rfl, hM, hm, fn_def F S hb, F.bindsN hbi⟩
end
/-! an attribute of a reckoned thing -/
def oFld (cs : List Nat) (a : Str) : D → Option D
  | .obj _ (.ins c ns) ds => if cs.contains c then match ns.findIdx? (fun x => decide (x = a)) with
    | some j => (ds[j]?).map frz
    | none => none
    else none
  | _ => none
theorem frzs_get : ∀ {ds : List D} {j : Nat}, (frzs ds)[j]? = (ds[j]?).map frz
  | [], j => by simp
  | d :: ds, 0 => by simp
  | d :: ds, j + 1 => by simp [frzs_get (ds := ds)]
def dRvW (f : SF) : M → R D := fun m => match f m with
  | some (.obj _ .lst ds) => if ds.all isSh then .ok (.obj .own .lst ds.reverse) m else .no
  | _ => .no
def dRv (f : M → R D) : M → R D := fun m => (f m).bind fun d m => match d with
  | .obj _ .lst ds => .ok (.obj .own .lst (frzs ds).reverse) m
  | _ => .no
section
variable {X : Cx} {cl : Nat → Addr} {xc : XC} {W : WX} {e o : Expr} {f : M → R D} {g : SF} {pos p1 p2 p3 : Pos} {a : Str} {cs : List Nat}
theorem d_fv (he : PEd X cl xc W o f) (hc : ∀ c, cs.contains c = true → Cls X.K (cl c) ∧ NoAttr X.K (cl c) a) (hb : attributeBase o a X.env (eval o X.env) = eval o X.env := by kernel_rfl) : PEd X cl xc W (.Attribute o a pos) (dUn (oFld cs a) f) :=
  pe_imp (pe_fld he hb) fun σ H Q h => tE_bind h fun φ fd fv F H1 m lv x d r1 q => by
    unfold ofO at q
    cases ez : oFld cs a d with
    | none => simp only [ez] at q
    | some z =>
      simp only [ez] at q
      unfold oFld at ez
      split at ez
      · rename_i o' c ns ds
        split at ez
        · rename_i hcs
          split at ez
          · rename_i j ej
            obtain ⟨F', b, vs, rfl, ex, w2, rs, kr, _⟩ := r1.wf.toTop.openTop
            obtain ⟨dx, hd, hl⟩ := kr
            obtain ⟨v, hv, rv⟩ := rs.at0 (i := j) (d := z) (by rw [frzs_get]; exact ez)
            exact ⟨b, cl c, dx, _, v, rfl, hd, (hc c hcs).1, (hc c hcs).2, lookup_zip ej hv hl, q F' H1 v ((r1.pop.with w2).push (w2.dup0 rv))⟩
          · cases ez
        · cases ez
      · cases ez
theorem d_rvW {k : Nat} (he : PEp X cl e g) : PEd X cl xc W (.Subscript e (.Slice none none (some (.UnaryOp .USub (.Constant (.int 1) k p1) p2)) p3) pos) (dRvW g) :=
  pe_imp (pe_revL he) fun σ H Q ⟨φ, fd, fv, F, m, lv, r, q⟩ => by
    unfold dRvW at q
    cases ed : g m with
    | none => simp only [ed] at q
    | some d =>
      simp only [ed] at q
      cases d with
      | obj o kd ds =>
        cases kd with
        | lst =>
          cases hs : ds.all isSh with
          | false => simp only [hs, Bool.false_eq_true, if_false] at q
          | true =>
            simp only [hs, if_true] at q
            refine ⟨φ, fd, fv, F, m, lv, r, _, ed, fun v fx rx => ?_⟩
            obtain ⟨b, vs, rfl, kr, ea, _⟩ := rx.opn r.wf.ex
            exact ⟨b, vs, rfl, kr, fun p hp => q F _ _ (r.push (r.wf.newSh (ea.reps hs).rev hp rfl))⟩
        | _ => simp only at q
      | _ => simp only at q
theorem d_rv {k : Nat} (he : PEd X cl xc W e f) : PEd X cl xc W (.Subscript e (.Slice none none (some (.UnaryOp .USub (.Constant (.int 1) k p1) p2)) p3) pos) (dRv f) :=
  pe_imp (pe_revL he) fun σ H Q h => tE_bind h fun φ fd fv F H1 m lv x d r1 q => by
    cases d with
    | obj o kd ds =>
      cases kd with
      | lst =>
        simp only at q
        obtain ⟨F', b, vs, rfl, ex, w2, rs, kr, _⟩ := r1.wf.toTop.openTop
        exact ⟨b, vs, rfl, kr, fun p hp => q F' _ _ ((r1.pop.with w2).push (w2.newSh rs.rev hp rfl))⟩
      | _ => simp only at q
    | _ => simp only at q
end
/-! a table of the module: whole numbers by whole numbers -/
def tabB (K : PySem.W.Frag) (x : Str) (kvs : List (Int × Int)) : Bool := match K.lookup (He.ga K x) with
  | some ⟨.type c, none, .dict es _, sl⟩ => decide (c = "dict") && (decide (sl = #[]) && (es.toList.all (fun e => match e.key with
    | .int k _ => decide (e.hash = hashInt k)
    | _ => false) && kvs.all fun kv => match findBy Value.isInt es kv.1 with
    | some (.int v _) => decide (v = kv.2)
    | _ => false))
  | _ => false
structure TabI (P : Program) (w : World) (K : PySem.W.Frag) (mg : Str → Option Value) (x : Str) (kvs : List (Int × Int)) : Prop where
  ex : ∃ a, mg x = some (.ref a) ∧ ∀ h, K.In h → ∃ f, h.MapOf (intKind P w) a f ∧ ∀ kv, kv ∈ kvs → ∃ t, f kv.1 = some (.int kv.2 t)
theorem tab_of {P : Program} {w : World} {K : PySem.W.Frag} {mg : Str → Option Value} {x : Str} {kvs : List (Int × Int)} (h : tabB K x kvs = true) (g : mg x = some (.ref (He.ga K x))) : TabI P w K mg x kvs := by
  refine ⟨_, g, fun hp X => ?_⟩
  unfold tabB at h
  split at h
  · rename_i c es n sl hl
    obtain ⟨h1, h⟩ := band2 h
    obtain ⟨h2, h⟩ := band2 h
    obtain ⟨h3, h4⟩ := band2 h
    have h1 := of_decide_eq_true h1
    have h2 := of_decide_eq_true h2
    subst h1 h2
    refine ⟨fun k => findBy Value.isInt es k, ⟨_, es, n, X _ _ hl, ⟨rfl, rfl, rfl⟩, rfl, fun e he => ?_, fun _ => rfl⟩, fun kv hkv => ?_⟩
    · have q := List.all_eq_true.mp h3 e (Array.mem_toList_iff.mpr he)
      split at q
      · rename_i k t ek
        exact ⟨k, by rw [ek]; simp [intKind, Value.isInt], of_decide_eq_true q⟩
      · cases q
    · have q := List.all_eq_true.mp h4 kv hkv
      split at q
      · rename_i v t ev
        exact ⟨t, by rw [← of_decide_eq_true q]; exact ev⟩
      · cases q
  · cases h
def oTab (kvs : List (Int × Int)) : D → Option D
  | .int i => (kvs.find? fun kv => kv.1 == i).map fun kv => .int kv.2
  | _ => none
section
variable {X : Cx} {cl : Nat → Addr} {b : Expr} {t : SF} {x : Str} {pos p1 : Pos} {kvs : List (Int × Int)}
theorem ix_tab (T : TabI X.prog X.w X.K X.mg x kvs) : ∃ a, X.mg x = some (.ref a) ∧ IxR X (fun u y H Q => ∃ k v, u = .ref a ∧ y = .int k ∧ (k, v) ∈ kvs ∧ Q (.int v) H) := by
  obtain ⟨a, h1, h2⟩ := T
  refine ⟨a, h1, ?_⟩
  intro value slice pins s σ H x y v u Q I rx ry h hs
  obtain ⟨k, z, rfl, rfl, hin, q⟩ := h
  obtain rfl : v = Value.ref a := rx
  obtain ⟨t, rfl⟩ := ry
  obtain ⟨f, hm, hf⟩ := h2 _ I.kIn
  obtain ⟨t', ht⟩ := hf _ hin
  exact PyProof.Rows.tail_any hm.typeIs slot_dict_getitem.lookup (wpAny_getItem_of (knd := intKind X.prog X.w) (k := k) (by simp [intKind, Value.isInt]) hm ht ⟨.int z, H, I.tok _, ⟨_, rfl⟩, q⟩) hs
theorem s_tab (T : TabI X.prog X.w X.K X.mg x kvs) (hb : PEs X cl b t) (hg : X.env.kindOf x = some .globalImplicit := by kernel_rfl) (hd : (x == ("__debug__" : Str)) = false := by kernel_rfl) (hp : PlainIx b := by exact fun _ _ => by kernel_rfl) : PEs X cl (.Subscript (.Name x p1) b pos) (sUn (oTab kvs) t) := by
  obtain ⟨a, h1, h2⟩ := ix_tab T
  refine pe_imp (pe_ix h2 (pe_glob hg h1 (v := .ref a) rfl hd) hb hp) fun σ H Q ⟨φ, fd, fv, F, m, lv, r, d, ed, hd, q⟩ => ?_
  unfold sUn at ed
  cases et : t m with
  | none => rw [et] at ed; cases ed
  | some k =>
    rw [et] at ed
    simp only [Option.bind_some] at ed
    unfold oTab at ed
    split at ed
    · rename_i i
      cases ef : kvs.find? fun kv => kv.1 == i with
      | none => rw [ef] at ed; cases ed
      | some kv =>
        rw [ef] at ed
        cases ed
        have e1 : kv.1 = i := by simpa using List.find?_some ef
        have e2 := List.mem_of_find?_eq_some ef
        refine ⟨φ, fd, fv, F, m, lv, r, _, et, rfl, fun v hv => ⟨i, kv.2, rfl, hv, ?_, q _ rfl⟩⟩
        rw [← e1]; exact e2
    · cases ed
end
@[simp] theorem oFld_i (cs : List Nat) (a : Str) (o : Ow) (c : Nat) (ns : List Str) (ds : List D) : oFld cs a (.obj o (.ins c ns) ds) = (if cs.contains c then match ns.findIdx? (fun x => decide (x = a)) with
    | some j => (ds[j]?).map frz
    | none => none
    else none) := rfl
@[simp] theorem dRvW_ap (f : SF) (m : M) : dRvW f m = (match f m with
  | some (.obj _ .lst ds) => if ds.all isSh then .ok (.obj .own .lst ds.reverse) m else .no
  | _ => .no) := rfl
@[simp] theorem dRv_ap (f : M → R D) (m : M) : dRv f m = ((f m).bind fun d m => match d with
  | .obj _ .lst ds => .ok (.obj .own .lst (frzs ds).reverse) m
  | _ => .no) := rfl
@[simp] theorem oTab_i (kvs : List (Int × Int)) (i : Int) : oTab kvs (.int i) = (kvs.find? fun kv => kv.1 == i).map fun kv => .int kv.2 := rfl
end Rf
namespace Rf
open PySem L2
/-! the world, told apart by one of its choices -/
def wAt (w : World) (r : String) (b : Bool) : World := ⟨w.draws, { w.params with followText := fun s => if s == r then b else w.params.followText s }⟩
theorem wAt_eq (w : World) (r : String) : w = wAt w r (w.params.followText r) := by
  have e : (fun s => if s == r then w.params.followText r else w.params.followText s) = w.params.followText := by
    funext s
    split
    · rename_i h; rw [eq_of_beq h]
    · rfl
  unfold wAt
  rw [e]
theorem ran_by {r : PySem.W.OpenRow} {q : Program} {H : PySem.W.Hook} {ob : PySem.W.SharedT → H.α} {n : Nat} {loose : List Str} (row : String)
    (h1 : ∀ w, HandSHeadRun.RunEq r q H ob n loose (wAt w row true)) (h2 : ∀ w, HandSHeadRun.RunEq r q H ob n loose (wAt w row false)) (w : World) : HandSHeadRun.RunEq r q H ob n loose w := by
  rw [wAt_eq w row]
  cases w.params.followText row with
  | true => exact h1 w
  | false => exact h2 w
end Rf
namespace Rf
open PySem L2
/-! the plain side: small things -/
def isT : R Fl → Bool
  | .ok (.rt (.bl true)) _ => true
  | _ => false
theorem isT_ok {r : R Fl} (h : isT r = true) : ∃ m, r = .ok (.rt (.bl true)) m := by
  unfold isT at h
  split at h
  · exact ⟨_, rfl⟩
  · cases h
def getR : R Fl → M
  | .ok _ m => m
  | _ => ⟨[], []⟩
/-- a block's end -/
theorem law_end {ns : Nat} {b : M → R Fl} {as : List D} {np : Nat} (hl : as.length = np) (h : ∃ m, b (m0 np ns as) = .ok (.rt (.bl true)) m) : ∃ as', runB np ns b as = .ok (.bl true) as' := by
  obtain ⟨m, e⟩ := h
  exact ⟨m.ls, by rw [runB_m hl, e]; rfl⟩
theorem seq_nx {f g : M → R Fl} {m m' : M} {r : R Fl} (h : f m = .ok .nx m') (h' : g m' = r) : dSeq f g m = r := by rw [dSeq_nx h, h']
theorem seq_rt {f g : M → R Fl} {m m' : M} {d : D} (h : f m = .ok (.rt d) m') : dSeq f g m = .ok (.rt d) m' := by rw [dSeq_ap, h]; rfl
theorem all_at {α : Type} {l : List α} {p : α → Bool} (h : l.all p = true) {a : α} (ha : a ∈ l) : p a = true := List.all_eq_true.mp h a ha
theorem modI {a n : Int} (h : 0 < n) : 0 ≤ a % n ∧ a % n < n := ⟨Int.emod_nonneg _ (by omega), Int.emod_lt_of_pos _ h⟩
end Rf
namespace Rf
open PySem L2
/-! xs.insert(i, e), xs.pop(i) -/
def insS (i : Nat) (m : M) : List D → R Fl
  | [.int k, d] => match rd m i with
    | .obj .own .lst xs => if xs.length < sizeLine ∧ 0 ≤ k ∧ k < 4611686018427387904 then .ok .nx (wr m i (.obj .own .lst (xs.take k.toNat ++ [d] ++ xs.drop k.toNat))) else .no
    | _ => .no
  | _ => .no
def dIns (i : Nat) (ga : M → R (List D)) : M → R Fl := fun m => if isLst (rd m i) then (ga m).bind fun xs m => insS i m xs else .no
def popS (i : Nat) (x : D) (m : M) : R D := match rd m i, x with
  | .obj .own .lst xs, .int k => if k.natAbs < 4611686018427387904 then match ixN xs.length k with
    | some j => match xs[j]? with
      | some d => .ok d (wr m i (.obj .own .lst (xs.eraseIdx j)))
      | none => .no
    | none => .no
    else .no
  | _, _ => .no
def dPop (i : Nat) (g : M → R D) : M → R D := fun m => if isLst (rd m i) then (g m).bind (popS i) else .no
section
variable {K : PySem.W.Frag} {cl : Nat → Addr} {F H : Hp} {φ : Type} {fd : φ → D} {fv : φ → V} {σ : St} {m : M} {lv : List V}
theorem Rel.top2 {x d : D} {u v : V} (r : Rel K cl (pshs .abs [x, d] fd) (pshs .non [u, v] fv) F H σ m lv) : Rel K cl (psh d fd) (psh v fv) F H σ m lv := by
  refine ⟨r.wf.map (fun a => match a with | .fr none => some (.fr (.inl 1)) | .fr (some q) => some (.fr (.inr q)) | .l k => some (.l k) | .s i => some (.s i)) (fun a b r h1 h2 => ?_) (fun a r h => ?_) (fun a h => ?_), r.ll, r.sl, r.vs, r.vl⟩
  · have e := h1.trans h2.symm
    rcases a with (_ | a) | a | a <;> rcases b with (_ | b) | b | b <;> first | rfl | (simp at e; done) | (simp at e; subst e; rfl)
  · rcases a with (_ | a) | a | a <;> (cases h; exact ⟨rfl, rfl⟩)
  · rcases a with (_ | a) | a | a <;> cases h
theorem Reps.ins1 {ds : List D} {vs : List V} {fps f' : List Addr} {d : D} {v : V} (n : Nat) (rs : Reps K cl F H ds vs fps) (rv : Rep K cl F H d v f') (nd : (fps ++ f').Nodup) : ∃ fq, Reps K cl F H (ds.take n ++ [d] ++ ds.drop n) (vs.take n ++ [v] ++ vs.drop n) fq ∧ fq.Nodup ∧ ∀ b, b ∈ fq → b ∈ fps ++ f' := by
  have e1 : ds.take n ++ ds.drop n = ds := List.take_append_drop n ds
  rw [← e1] at rs
  obtain ⟨v1, v2, f1, f2, e2, e3, r1, r2⟩ := rs.split
  have l1 := r1.len
  have l2 := r2.len
  have ev : vs.take n = v1 ∧ vs.drop n = v2 := by
    subst e2
    rw [List.length_take] at l1
    rw [List.length_drop] at l2
    rcases Nat.lt_or_ge n ds.length with h | h
    · have : v1.length = n := by omega
      subst this
      exact ⟨List.take_left' rfl, List.drop_left' rfl⟩
    · have h2 : v2 = [] := List.eq_nil_of_length_eq_zero (by omega)
      have h1 : v1.length ≤ n := by omega
      subst h2
      simp [List.take_of_length_le h1, List.drop_of_length_le h1]
  rw [ev.1, ev.2]
  subst e3
  refine ⟨f1 ++ f' ++ f2, (r1.app (Reps.one rv)).app r2, ?_, fun b hb => by simp at hb ⊢; rcases hb with h | h | h <;> simp [h]⟩
  have n1 := List.nodup_append.mp nd
  have n2 := List.nodup_append.mp n1.1
  refine List.nodup_append.mpr ⟨List.nodup_append.mpr ⟨n2.1, n1.2.1, fun x hx y hy => n1.2.2 x (by simp [hx]) y hy⟩, n2.2.1, fun x hx y hy => ?_⟩
  rcases List.mem_append.mp hx with h | h
  · exact n2.2.2 x h y hy
  · exact fun e => n1.2.2 y (by simp [hy]) x h e.symm
theorem Reps.era : ∀ {ds : List D} {vs : List V} {fps : List Addr} (j : Nat), Reps K cl F H ds vs fps → fps.Nodup → ∃ fq, Reps K cl F H (ds.eraseIdx j) (vs.eraseIdx j) fq ∧ fq.Nodup ∧ ∀ b, b ∈ fq → b ∈ fps
  | [], vs, fps, j, rs, nd => by obtain ⟨rfl, rfl⟩ := rs; exact ⟨[], by simp [Reps], List.nodup_nil, fun b h => h⟩
  | d :: ds, vs, fps, 0, rs, nd => by
    obtain ⟨v, vr, f1, f2, rfl, rfl, r1, r2⟩ := rs
    exact ⟨f2, r2, (List.nodup_append.mp nd).2.1, fun b h => by simp [h]⟩
  | d :: ds, vs, fps, j + 1, rs, nd => by
    obtain ⟨v, vr, f1, f2, rfl, rfl, r1, r2⟩ := rs
    have n2 := List.nodup_append.mp nd
    obtain ⟨fq, q1, q2, q3⟩ := Reps.era j r2 n2.2.1
    exact ⟨f1 ++ fq, .cons r1 q1, List.nodup_append.mpr ⟨n2.1, q2, fun x hx y hy => n2.2.2 x hx y (q3 y hy)⟩, fun b h => by
      rcases List.mem_append.mp h with h | h
      · simp [h]
      · simp [q3 b h]⟩
end
theorem Reps.out {K : PySem.W.Frag} {cl : Nat → Addr} {F H : Hp} : ∀ {ds : List D} {vs : List V} {fps : List Addr} {j : Nat} {d : D}, Reps K cl F H ds vs fps → ds[j]? = some d → ∃ v f1 f f2, vs[j]? = some v ∧ Rep K cl F H d v f ∧ fps = f1 ++ f ++ f2 ∧ Reps K cl F H (ds.eraseIdx j) (vs.eraseIdx j) (f1 ++ f2)
  | d :: ds, _, _, 0, _, r, h => by
    obtain ⟨v, vr, g1, g2, rfl, rfl, r1, r2⟩ := r
    simp at h; subst h
    exact ⟨v, [], g1, g2, rfl, r1, by simp, by simpa using r2⟩
  | d :: ds, _, _, j + 1, _, r, h => by
    obtain ⟨v, vr, g1, g2, rfl, rfl, r1, r2⟩ := r
    obtain ⟨w, f1, f, f2, h1, h2, h3, h4⟩ := Reps.out r2 (j := j) (by simpa using h)
    refine ⟨w, g1 ++ f1, f, f2, by simpa using h1, h2, by rw [h3]; simp, ?_⟩
    have := Reps.cons r1 h4
    simpa [List.append_assoc] using this
theorem WF.popAt {K : PySem.W.Frag} {cl : Nat → Addr} {F H : Hp} {ι : Type} {rd : ι → D} {rv : ι → V} (w : WF K cl F H rd rv) (i : ι) {xs : List D} {j : Nat} {d : D} (hi : rd i = .obj .own .lst xs) (hj : xs[j]? = some d) :
    ∃ a vs z, rv i = .ref a ∧ H a = some (.lst vs) ∧ vs.length = xs.length ∧ vs[j]? = some z ∧ WF K cl F (upd H a (.lst (vs.eraseIdx j))) (psh d (fset rd i (.obj .own .lst (xs.eraseIdx j)))) (psh z rv) := by
  obtain ⟨fp, h1, h2, h3⟩ := w.fp
  have r := h1 i
  rw [hi] at r
  obtain ⟨a, vs, fps, ev, ⟨n1, ⟨u, n2, n3⟩, n4⟩, rs⟩ := r
  have n3 : u = .lst vs := n3
  subst n3
  obtain ⟨z, f1, f, f2, g1, g2, g3, g4⟩ := rs.out hj
  subst g3
  have nd : (a :: (f1 ++ f ++ f2)).Nodup := by rw [← n4]; exact h2 i
  obtain ⟨na, nf⟩ := List.nodup_cons.mp nd
  obtain ⟨nd2, dis, nd12⟩ := nodup_mid nf
  have am : a ∈ fp i := by rw [n4]; simp
  have keep : ∀ {d : D} {v : V} {g : List Addr}, Rep K cl F H d v g → a ∉ g → Rep K cl F (upd H a (.lst (vs.eraseIdx j))) d v g := fun {d v g} r h =>
    Rep.mono _ r (Ex.refl F) fun b hb => ⟨(Rep.fp _ r b hb).1, upd_ne fun e => h (e ▸ hb)⟩
  have rs' : Reps K cl F (upd H a (.lst (vs.eraseIdx j))) (xs.eraseIdx j) (vs.eraseIdx j) (f1 ++ f2) := Reps.mono _ g4 (Ex.refl F) fun b hb =>
    ⟨(Reps.fp _ g4 b hb).1, upd_ne fun e => na (by subst e; simp at hb ⊢; rcases hb with h | h <;> simp [h])⟩
  refine ⟨a, vs, z, ev, n2, rs.len, g1, fun b o hb => ?_, psh f (fset fp i (a :: (f1 ++ f2))), fun q => ?_, fun q => ?_, fun q q' b hb hb' => ?_⟩
  · have : b ≠ a := fun e => by subst e; rw [n1] at hb; cases hb
    rw [upd_ne this]; exact w.ex b o hb
  · cases q with
  | none => exact keep g2 fun h => na (by have h : a ∈ f := h; simp [h])
    | some q =>
      by_cases e : q = i
      · subst e
        show Rep K cl F _ (fset rd q _ q) (rv q) (fset fp q _ q)
        rw [fset_same, fset_same]
        exact ⟨a, vs.eraseIdx j, f1 ++ f2, ev, ⟨n1, ⟨_, upd_same, rfl⟩, rfl⟩, rs'⟩
      · show Rep K cl F _ (fset rd i _ q) (rv q) (fset fp i _ q)
        rw [fset_ne e, fset_ne e]
        exact keep (h1 q) fun h => e (h3 q i a h am)
  · cases q with
    | none => exact nd2
    | some q =>
      by_cases e : q = i
      · subst e
        show (fset fp q _ q).Nodup
        rw [fset_same]
        exact List.nodup_cons.mpr ⟨fun h => na (by simp at h ⊢; rcases h with h | h <;> simp [h]), nd12⟩
      · show (fset fp i _ q).Nodup
        rw [fset_ne e]; exact h2 q
  · have sub : ∀ b, b ∈ fset fp i (a :: (f1 ++ f2)) i → b ∈ fp i := fun b hb => by
      rw [fset_same] at hb
      rw [n4]
      simp at hb ⊢; rcases hb with h | h | h <;> simp [h]
    have fin : ∀ b, b ∈ f → b ∈ fp i := fun b hb => by rw [n4]; simp [hb]
    have no : ∀ b, b ∈ f → b ∈ fset fp i (a :: (f1 ++ f2)) i → False := fun b hb hb' => by
      rw [fset_same] at hb'
      rcases List.mem_cons.mp hb' with e | h
      · exact na (by rw [← e]; simp [hb])
      · rcases List.mem_append.mp h with h | h
        · exact (dis b hb).1 h
        · exact (dis b hb).2 h
    have one : ∀ q b, b ∈ f → b ∈ fset fp i (a :: (f1 ++ f2)) q → False := fun q b kb kb' => by
      by_cases e : q = i
      · rw [e] at kb'; exact no b kb kb'
      · rw [fset_ne e] at kb'
        exact e (h3 q i b kb' (fin b kb))
    cases q with
    | none =>
      cases q' with
      | none => rfl
      | some q' => exact (one q' b hb hb').elim
    | some q =>
      cases q' with
      | none => exact (one q b hb' hb).elim
      | some q' =>
        have m : ∀ q, b ∈ fset fp i (a :: (f1 ++ f2)) q → b ∈ fp q := fun q h => by
          by_cases e : q = i
          · rw [e] at h ⊢; exact sub b h
          · rw [fset_ne e] at h; exact h
        rw [h3 q q' b (m q hb) (m q' hb')]
section
variable {X : Cx} {cl : Nat → Addr} {xc : XC} {W : WX} {a b : Expr} {ga : M → R (List D)} {pos apos pos' p1 : Pos} {s : SF} {x : Str}
theorem st_ins (i : Nat) (ha : PAd X cl xc W [a, b] ga) (hx : PEl X cl (.Name x p1) i [] := by exact l_v _)
    (hbase : attributeBase (.Name x p1) "insert" X.env (eval (.Name x p1) X.env) = eval (.Name x p1) X.env := by kernel_rfl)
    (hfew : ((backTo pos (starEach [a, b] X.env)).all (fun x => !x.1) && (backToKw pos (keywordEach [] X.env)).all (fun x => x.1.isSome) && decide ([a, b].length + ([] : List Keyword).length + (if ([] : List Keyword).isEmpty then 0 else 1) < 30)) = true := by kernel_rfl)
    (hline : (apos.endLine == pos.line) = true := by kernel_rfl) (hss : starEach [a, b] X.env = (false, eval a X.env) :: starEach [b] X.env := by kernel_rfl) (hplain : (backTo pos (starEach [b] X.env)).any (·.1) = false := by kernel_rfl)
    (hs : swapsWith (.Call (.Attribute (.Name x p1) "insert" apos) [a, b] [] pos) none pos'.line X.env = pure false := by kernel_rfl) :
    PSd X cl xc W (.Expr (.Call (.Attribute (.Name x p1) "insert" apos) [a, b] [] pos) pos') (dIns i ga) :=
  ps_imp (ps_expr (pe_bm PySem.F.plainAttrs_list PySem.F.slot_list_insert PySem.F.type_list_insert mt_insert hx ha hbase hfew hline hss hplain) hs) fun Dn σ H hq => by
    obtain ⟨φ, fd, fv, F, m, lv, r, q⟩ := tS_post.mp hq
    unfold dIns at q
    cases hl : isLst (rd m i) with
    | false => rw [hl] at q; exact q.elim
    | true =>
      rw [hl, if_pos rfl] at q
      obtain ⟨hi, ty⟩ := lst_tyV r hl
      refine ⟨φ, fd, fv, F, m, lv, r, hi, [], _, _, rfl, rfl, ty, φ, fd, fv, F, m, lv, r, ?_⟩
      cases e : ga m with
      | no => rw [e] at q; exact q.elim
      | ex c n m1 => rw [e] at q; exact fun F' H' dx r' => q F' H' σ dx r'
      | ok ds m1 =>
        rw [e] at q
        intro F1 H1 vs hl1 r1
        have q : PostS X.K cl xc W fd fv lv Dn (insS i m1 ds) := q
        unfold insS at q
        clear e
        split at q
        · rename_i k d hh
          split at q
          · rename_i xs hx
            split at q
            · rename_i h3
              obtain ⟨hz, h0, hk⟩ := h3
              have hi1 : isAbs (rd m1 i) = false := by rw [hx]; rfl
              obtain ⟨u, v, rfl⟩ : ∃ u v, vs = [u, v] := by
                match vs, hl1 with
                | [u, v], _ => exact ⟨u, v, rfl⟩
              have eu : u = .int k := by
                have := int_of (i := 0) (j := k) r1.wf.toTops rfl rfl
                simpa using this
              subst eu
              have r2 := r1.top2
              obtain ⟨A, vs2, w, f', va, ha', hu, hlen, rv, put⟩ := r2.mutAt (p := []) hi1 (by rw [dget_nil, hx]) down_nil
              have hu : w = .lst vs2 := hu
              subst hu
              have ev : cV σ lv fv (root φ m i) = .ref A := (same_v r r2.pop hi hi1).trans (show V.ref A = _ from va).symm
              refine ⟨A, vs2, k, v, ev, rfl, ha', by omega, h0, by omega, ?_⟩
              have r3 := put (.lst (vs2.take k.toNat ++ [v] ++ vs2.drop k.toNat)) .lst (xs.take k.toNat ++ [d] ++ xs.drop k.toNat) (vs2.take k.toNat ++ [v] ++ vs2.drop k.toNat) rfl fun fps rs nd => rs.ins1 k.toNat rv nd
              rw [dput_nil] at r3
              exact q F1 _ σ r3
            · exact q.elim
          · exact q.elim
        · exact q.elim
theorem seqIx {i : Int} {n j : Nat} (h : ixN n i = some j) : seqIndex? i n = some j := (ixN_seq h).1
theorem d_pop {g : M → R D} (i : Nat) (ha : PEd X cl xc W a g) (hx : PEl X cl (.Name x p1) i [] := by exact l_v _)
    (hbase : attributeBase (.Name x p1) "pop" X.env (eval (.Name x p1) X.env) = eval (.Name x p1) X.env := by kernel_rfl)
    (hfew : ((backTo pos (starEach [a] X.env)).all (fun x => !x.1) && (backToKw pos (keywordEach [] X.env)).all (fun x => x.1.isSome) && decide ([a].length + ([] : List Keyword).length + (if ([] : List Keyword).isEmpty then 0 else 1) < 30)) = true := by kernel_rfl)
    (hline : (apos.endLine == pos.line) = true := by kernel_rfl) (hss : starEach [a] X.env = (false, eval a X.env) :: starEach [] X.env := by kernel_rfl) (hplain : (backTo pos (starEach [] X.env)).any (·.1) = false := by kernel_rfl) :
    PEd X cl xc W (.Call (.Attribute (.Name x p1) "pop" apos) [a] [] pos) (dPop i g) :=
  pe_imp (pe_bm PySem.F.plainAttrs_list PySem.F.slot_list_pop PySem.F.type_list_pop mt_popAt hx (pa_cons ha pa_nil hss) hbase hfew hline hss hplain) fun σ H Q ⟨φ, fd, fv, F, m, lv, r, q⟩ => by
    unfold dPop at q
    cases hl : isLst (rd m i) with
    | false => simp only [hl, Bool.false_eq_true, if_false] at q
    | true =>
      simp only [hl, if_true] at q
      obtain ⟨hi, ty⟩ := lst_tyV r hl
      refine ⟨φ, fd, fv, F, m, lv, r, hi, [], _, _, rfl, rfl, ty, φ, fd, fv, F, m, lv, r, ?_⟩
      cases e : g m with
      | no => simp only [e, R.bind] at q
      | ex c n m1 => simp only [e, R.bind] at q ⊢; exact q
      | ok x m1 =>
        simp only [e, R.bind] at q ⊢
        intro F1 H1 vk r1
        unfold popS at q
        cases hr : rd m1 i with
        | obj o kd xs =>
          cases o <;> cases kd <;> simp only [hr] at q
          case own.lst =>
            cases x <;> simp only at q
            case int k =>
              have hvk : vk = .int k := by
                obtain ⟨fx, rx⟩ := r1.wf.toTop.topRep
                exact rx.1
              subst hvk
              by_cases hk : k.natAbs < 4611686018427387904
              case neg => simp only [hk, if_false] at q
              simp only [hk, if_true] at q
              cases ej : ixN xs.length k with
              | none => simp only [ej] at q
              | some j =>
                simp only [ej] at q
                cases ed : xs[j]? with
                | none => simp only [ed] at q
                | some d =>
                  simp only [ed] at q
                  have r2 := r1.pop
                  have hi1 : isAbs (rd m1 i) = false := by rw [hr]; rfl
                  have q3 : cD m1 fd (root φ m1 i) = .obj .own .lst xs := by rw [(r2.at hi1).1, hr]
                  obtain ⟨A, vs, z, ev, ha', hlen, hz, w'⟩ := r2.wf.popAt (root φ m1 i) q3 ed
                  have ev' : cV σ lv fv (root φ m i) = .ref A := (same_v r r2 hi hi1).trans ev
                  refine ⟨A, vs, k, j, z, ev', rfl, ha', by omega, by omega, by rw [hlen]; exact seqIx ej, hz, ?_⟩
                  exact q F1 _ z ((r2.wr hi1 w'.pop).push (by rw [cD_wr r2 hi1]; exact w'))
        | _ => simp only [hr] at q
end
@[simp] theorem dIns_ap (i : Nat) (ga : M → R (List D)) (m : M) : dIns i ga m = if isLst (rd m i) then (ga m).bind fun xs m => insS i m xs else .no := rfl
@[simp] theorem insS_ap (i : Nat) (m : M) (k : Int) (d : D) : insS i m [.int k, d] = (match rd m i with
    | .obj .own .lst xs => if xs.length < sizeLine ∧ 0 ≤ k ∧ k < 4611686018427387904 then .ok .nx (wr m i (.obj .own .lst (xs.take k.toNat ++ [d] ++ xs.drop k.toNat))) else .no
    | _ => .no) := rfl
@[simp] theorem dPop_ap (i : Nat) (g : M → R D) (m : M) : dPop i g m = if isLst (rd m i) then (g m).bind (popS i) else .no := rfl
@[simp] theorem popS_ap (i : Nat) (k : Int) (m : M) : popS i (.int k) m = (match rd m i with
  | .obj .own .lst xs => if k.natAbs < 4611686018427387904 then match ixN xs.length k with
    | some j => match xs[j]? with
      | some d => .ok d (wr m i (.obj .own .lst (xs.eraseIdx j)))
      | none => .no
    | none => .no
    else .no
  | _ => .no) := by
  unfold popS
  cases rd m i with
  | obj o kd xs => cases o <;> cases kd <;> rfl
  | _ => rfl
end Rf
namespace Rf
open PySem L2
/-! tests in the suite of a clause with a name -/
def tQT (K : PySem.W.Frag) (cl : Nat → Addr) (i : Nat) (a : Addr) (s : M → Option Bool) : TT := fun σ H Q => σ[i]? = some (some (.ref a)) ∧ tPT K cl s σ H Q
def qOr (s t : M → Option Bool) : M → Option Bool := fun m => (s m).bind fun b => if b then some true else t m
def qAnd (s t : M → Option Bool) : M → Option Bool := fun m => (s m).bind fun b => if b then t m else some false
def qNot (s : M → Option Bool) : M → Option Bool := fun m => (s m).map fun b => !b
@[simp] theorem qOr_ap (s t : M → Option Bool) (m : M) : qOr s t m = ((s m).bind fun b => if b then some true else t m) := rfl
@[simp] theorem qAnd_ap (s t : M → Option Bool) (m : M) : qAnd s t m = ((s m).bind fun b => if b then t m else some false) := rfl
@[simp] theorem qNot_ap (s : M → Option Bool) (m : M) : qNot s m = ((s m).map fun b => !b) := rfl
section
variable {X : Cx} {cl : Nat → Addr} {xc : XC} {W : WX} {e a b : Expr} {es : List Expr} {s : SF} {t u : M → Option Bool} {pos : Pos} {i : Nat} {A : Addr} {body orelse : List Stmt} {p q : M → R Fl}
theorem qt_s (h : PE X e (tQ X.K cl i A s)) (he : ∀ whole, isTrue e X.env whole = (do let v ← whole; standAt e.pos; holding [v] (truthy v)) := by exact fun _ => by kernel_rfl) : PT X e (tQT X.K cl i A (sT s)) :=
  pt_imp (pt_val h he) fun σ H Q ⟨z, φ, fd, fv, F, m, lv, r, k, ek, q⟩ => by
    unfold sT at ek
    cases es : s m with
    | none => rw [es] at ek; cases ek
    | some d =>
      rw [es] at ek
      have := bOf_some (show bOf d = some k from ek)
      subst this
      exact ⟨z, φ, fd, fv, F, m, lv, r, _, es, rfl, fun v hv => ⟨k, hv, q⟩⟩
theorem qt_w (h : PW X e (tQT X.K cl i A t)) : PT X e (tQT X.K cl i A t) := h.pt
theorem qt_1 {op : BoolOp} (h : PT X a (tQT X.K cl i A t)) : PW X (.BoolOp op [a] pos) (tQT X.K cl i A t) := by
  cases op with
  | And => exact pw_and1 h
  | Or => exact pw_or1 h
theorem qt_or (h : PT X a (tQT X.K cl i A t)) (h' : PW X (.BoolOp .Or (b :: es) pos) (tQT X.K cl i A u)) : PW X (.BoolOp .Or (a :: b :: es) pos) (tQT X.K cl i A (qOr t u)) :=
  pw_imp (pw_or h h') fun σ H Q ⟨z, φ, fd, fv, F, m, lv, r, k, ek, q⟩ => by
    unfold qOr at ek
    cases et : t m with
    | none => rw [et] at ek; cases ek
    | some c =>
      rw [et] at ek
      simp only [Option.bind_some] at ek
      refine ⟨z, φ, fd, fv, F, m, lv, r, c, et, ?_⟩
      cases c with
      | true => rw [if_pos rfl] at ek ⊢; cases ek; exact q
      | false => rw [if_neg (by decide)] at ek ⊢; exact ⟨z, φ, fd, fv, F, m, lv, r, k, ek, q⟩
theorem qt_and (h : PT X a (tQT X.K cl i A t)) (h' : PW X (.BoolOp .And (b :: es) pos) (tQT X.K cl i A u)) : PW X (.BoolOp .And (a :: b :: es) pos) (tQT X.K cl i A (qAnd t u)) :=
  pw_imp (pw_and h h') fun σ H Q ⟨z, φ, fd, fv, F, m, lv, r, k, ek, q⟩ => by
    unfold qAnd at ek
    cases et : t m with
    | none => rw [et] at ek; cases ek
    | some c =>
      rw [et] at ek
      simp only [Option.bind_some] at ek
      refine ⟨z, φ, fd, fv, F, m, lv, r, c, et, ?_⟩
      cases c with
      | true => rw [if_pos rfl] at ek ⊢; exact ⟨z, φ, fd, fv, F, m, lv, r, k, ek, q⟩
      | false => rw [if_neg (by decide)] at ek ⊢; cases ek; exact q
theorem qt_not (h : PT X a (tQT X.K cl i A t)) : PT X (.UnaryOp .Not a pos) (tQT X.K cl i A (qNot t)) :=
  pt_imp (pt_not h) fun σ H Q ⟨z, φ, fd, fv, F, m, lv, r, k, ek, q⟩ => by
    unfold qNot at ek
    cases et : t m with
    | none => rw [et] at ek; cases ek
    | some c =>
      rw [et] at ek
      cases ek
      exact ⟨z, φ, fd, fv, F, m, lv, r, c, et, q⟩
theorem q_ifT (h : PT X e (tQT X.K cl i A t)) (ha : PSsd X cl xc W0 body p) (hb : PSsd X cl xc W0 orelse q) : PS X (.If e body orelse pos) (tQs X.K cl xc i A (dIfS (dTs t) p q)) :=
  ps_imp (ps_if h ha hb) fun Dn σ H ⟨z, hq⟩ => by
    obtain ⟨φ, fd, fv, F, m, lv, r, hq⟩ := tS_post.mp hq
    unfold dIfS dTs at hq
    cases et : t m with
    | none => simp [et, ofO] at hq; exact hq.elim
    | some k =>
      simp only [et, ofO, R.bind] at hq
      refine ⟨z, φ, fd, fv, F, m, lv, r, k, et, ?_⟩
      cases k with
      | true => exact tS_post.mpr ⟨φ, fd, fv, F, m, lv, r, hq⟩
      | false => exact tS_post.mpr ⟨φ, fd, fv, F, m, lv, r, hq⟩
end
end Rf
namespace Rf
open PySem L2
/-! the plain side: comprehensions -/
theorem loopC_inv {g : TF} {t : M → R Bool} {f : M → R D} {js : List Nat} (Inv : Nat → List D → M → Prop) (items : List D) (hl : items.length ≤ sizeLine)
    (h : ∀ (i : Nat) (d : D) (acc : List D) (m : M), items[i]? = some d → Inv i acc m → ∃ (md mt my : M) (y : D), g d m = some md ∧ t md = .ok true mt ∧ f mt = .ok y my ∧ isAbs y = false ∧ allVal js my = true ∧ Inv (i + 1) (acc ++ [y]) (clrs js my)) (m : M) (h0 : Inv 0 [] m) :
    ∃ acc m', loopC g t f js items [] m = .ok acc m' ∧ acc.length = items.length ∧ Inv items.length acc m' := by
  suffices ∀ (k : Nat) (rest acc : List D) (m : M), (∀ (i : Nat) (d : D), rest[i]? = some d → items[k + i]? = some d) → acc.length = k → k + rest.length = items.length → Inv k acc m → ∃ acc' m', loopC g t f js rest acc m = .ok acc' m' ∧ acc'.length = items.length ∧ Inv items.length acc' m' by
    exact this 0 items [] m (fun i d e => by simpa using e) rfl (by simp) h0
  intro k rest
  induction rest generalizing k with
  | nil =>
    intro acc m _ ha hk hi
    have : k = items.length := by simpa using hk
    subst this
    exact ⟨acc, m, rfl, ha, hi⟩
  | cons d ds ih =>
    intro acc m hr ha hk hi
    rw [List.length_cons] at hk
    obtain ⟨md, mt, my, y, h1, h2, h3, h4, h5, h6⟩ := h k d acc m (by simpa using hr 0 d rfl) hi
    obtain ⟨acc', m', q1, q2, q3⟩ := ih (k + 1) (acc ++ [y]) (clrs js my) (fun i d' e => by have := hr (i + 1) d' (by simpa using e); rw [show k + (i + 1) = k + 1 + i by omega] at this; exact this) (by simp [ha]) (by omega) h6
    refine ⟨acc', m', ?_, q2, q3⟩
    unfold loopC
    rw [h1]
    simp only [h2, h3, R.bind_ok, if_true]
    rw [if_pos ⟨by omega, h4, h5⟩, q1]
theorem loopC_fil {g : TF} {t : M → R Bool} {f : M → R D} {js : List Nat} {m : M} (p : D → Bool) (y : D → D) : ∀ (items acc : List D), (∀ d ∈ items, ∃ md, g d m = some md ∧ t md = .ok (p d) md ∧ (p d = true → f md = .ok (y d) md ∧ isAbs (y d) = false) ∧ allVal js md = true ∧ clrs js md = m) → acc.length + items.length ≤ sizeLine →
    loopC g t f js items acc m = .ok (acc ++ (items.filter p).map y) m
  | [], acc, _, _ => by simp [loopC]
  | d :: ds, acc, h, hl => by
    obtain ⟨md, h1, h2, h3, h5, h6⟩ := h d (by simp)
    rw [List.length_cons] at hl
    unfold loopC
    rw [h1]
    cases hp : p d with
    | true =>
      obtain ⟨h3, h4⟩ := h3 hp
      have ih := loopC_fil (g := g) (t := t) (f := f) (js := js) (m := m) p y ds (acc ++ [y d]) (fun d' hd => h d' (by simp [hd])) (by simp; omega)
      simp only [h2, hp, h3, R.bind_ok, if_true]
      rw [if_pos ⟨by omega, h4, h5⟩, h6, ih]
      simp [hp]
    | false =>
      have ih := loopC_fil (g := g) (t := t) (f := f) (js := js) (m := m) p y ds acc (fun d' hd => h d' (by simp [hd])) (by omega)
      simp only [h2, hp, R.bind_ok, Bool.false_eq_true, if_false]
      rw [if_pos h5, h6, ih]
      simp [hp]
theorem frzs_eq : ∀ ds : List D, frzs ds = ds.map frz
  | [] => rfl
  | d :: ds => by simp [frzs_eq ds]
@[simp] theorem bAll_bl (o : Ow) (bs : List Bool) : bAll [.obj o .lst (bs.map D.bl)] = some (.bl (bs.all id)) := by
  unfold bAll
  simp
@[simp] theorem bAny_bl (o : Ow) (bs : List Bool) : bAny [.obj o .lst (bs.map D.bl)] = some (.bl (bs.any id)) := by
  unfold bAny
  simp
/-- a loop over a row, item by item -/
theorem loopF_nil {g : TF} {b : M → R Fl} {m : M} : loopF g b [] m = .ok .nx m := rfl
theorem loopF_step {g : TF} {b : M → R Fl} {d : D} {ds : List D} {m m1 : M} (h1 : g d m = some m1) : loopF g b (d :: ds) m = ((b m1).bind fun fl m => match fl with
    | .nx => loopF g b ds m
    | .ct => loopF g b ds m
    | .bk => .ok .nx m
    | .rt d => .ok (.rt d) m) := by
  conv => lhs; unfold loopF
  simp only [h1]
  all_goals (cases b m1 <;> first | rfl | (rename_i fl m; cases fl <;> rfl))
end Rf
namespace Rf
open PySem L2
/-! a == [], a != [] -/
section
variable {X : Cx} {cl : Nat → Addr} {xc : XC} {W : WX} {a : Expr} {f : SF} {pos p2 : Pos}
theorem qnil_of {op : CmpOp} {o : D → D → Option D} {r : R2} (h2 : OpQ X.K cl r o) {σ : St} {H : Hp} {Q : VK} (h : tE X.K cl xc W (dS (sBin o f (pC (.obj .own .lst [])))) σ H Q) : tOp r (tK X.K cl f) (tLst tNil) σ H Q := by
  obtain ⟨φ, fd, fv, F, m, lv, rl, q⟩ := h
  unfold dS at q
  cases es : sBin o f (pC (.obj .own .lst [])) m with
  | none => simp only [es] at q
  | some z =>
    simp only [es] at q
    obtain ⟨x, y, ex, ey, ez⟩ := sBin_some es
    cases ey
    refine ⟨φ, fd, fv, F, m, lv, rl, x, ex, fun vx fx rx => ⟨by simp, fun p hp => ?_⟩⟩
    have e1 : Ex H (upd H p (.lst [])) := ex_new hp
    have w1 := rl.wf.grow e1
    have rx' : Rep X.K cl F (upd H p (.lst [])) x vx fx := Rep.mono _ rx (Ex.refl F) fun b hb => by
      obtain ⟨g1, o', g2⟩ := Rep.fp _ rx b hb
      exact ⟨g1, upd_ne fun e => by subst e; rw [hp] at g2; cases g2⟩
    have ry : Rep X.K cl F (upd H p (.lst [])) (.obj .own .lst []) (.ref p) [p] := ⟨p, [], [], rfl, ⟨rl.wf.ex.no hp, ⟨_, upd_same, rfl⟩, rfl⟩, rfl, rfl⟩
    obtain ⟨hz, k⟩ := h2 F (upd H p (.lst [])) x (.obj .own .lst []) z vx (.ref p) fx [p] Q w1.ex ez rx' ry
    rw [if_pos hz] at q
    exact k fun v hv => q F _ v ((rl.with w1).push (w1.dup0 hv.rep))
theorem d_qnil {op : CmpOp} {o : D → D → Option D} (h : CmpQ X cl op o) (ha : PEp X cl a f) (hm : behindInMarks op (.List [] p2) = false := by kernel_rfl) : PEd X cl xc W (.Compare a [op] [.List [] p2] pos) (dS (sBin o f (pC (.obj .own .lst [])))) := by
  obtain ⟨r, h1, h2⟩ := h
  exact pe_imp (pe_cmpR h1 ha (pe_lst pa_nil) hm) fun σ H Q q => qnil_of (op := op) h2 q
theorem t_qnil {op : CmpOp} {o : D → D → Option D} (h : CmpQ X cl op o) (ha : PEp X cl a f) (hm : behindInMarks op (.List [] p2) = false := by kernel_rfl) : PTd X cl xc W (.Compare a [op] [.List [] p2] pos) (dT (dS (sBin o f (pC (.obj .own .lst []))))) := by
  obtain ⟨r, h1, h2⟩ := h
  exact pt_imp (pt_cmpR h1 ha (pe_lst pa_nil) hm) fun σ H Q q => qnil_of (op := op) h2 (tET q)
end
end Rf
namespace Rf
open PySem L2
/-! data as trees: the owners do not matter for == -/
mutual
def erz : D → D
  | .obj _ k ds => .obj .shr k (erzs ds)
  | d => d
def erzs : List D → List D
  | [] => []
  | d :: ds => erz d :: erzs ds
end
mutual
/-- plain data of any owner -/
def pt : D → Bool
  | .non => true
  | .bl _ => true
  | .int _ => true
  | .str s => PyData.strOk s
  | .obj _ .lst ds => pts ds
  | .obj _ .tup ds => pts ds
  | _ => false
def pts : List D → Bool
  | [] => true
  | d :: ds => pt d && pts ds
end
theorem erzs_eq (ds : List D) : erzs ds = ds.map erz := by
  induction ds with
  | nil => rfl
  | cons d ds ih => simp [erzs, ih]
theorem pts_eq (ds : List D) : pts ds = ds.all pt := by
  induction ds with
  | nil => rfl
  | cons d ds ih => simp [pts, ih]
mutual
theorem pd_erz : ∀ d : D, Rf.pd (erz d) = Rf.pd d
  | .abs => rfl
  | .pin _ _ => rfl
  | .non => rfl
  | .bl _ => rfl
  | .int _ => rfl
  | .str _ => rfl
  | .obj o .lst ds => by unfold erz; unfold Rf.pd; rw [pds_erz ds]
  | .obj o .tup ds => by unfold erz; unfold Rf.pd; rw [pds_erz ds]
  | .obj o (.dic _) ds => rfl
  | .obj o (.dit _) ds => rfl
  | .obj o (.ins _ _) ds => rfl
theorem pds_erz : ∀ ds : List D, pds (erzs ds) = pds ds
  | [] => rfl
  | d :: ds => by unfold erzs; unfold pds; rw [pd_erz d, pds_erz ds]
end
mutual
theorem erz_frz : ∀ d : D, erz (frz d) = erz d
  | .abs => rfl
  | .pin _ _ => rfl
  | .non => rfl
  | .bl _ => rfl
  | .int _ => rfl
  | .str _ => rfl
  | .obj o k ds => by
    unfold frz
    split
    · conv => lhs; unfold erz
      conv => rhs; unfold erz
      rw [erzs_frzs ds]
    · rfl
theorem erzs_frzs : ∀ ds : List D, erzs (frzs ds) = erzs ds
  | [] => rfl
  | d :: ds => by
    conv => lhs; unfold frzs; unfold erzs
    conv => rhs; unfold erzs
    rw [erz_frz d, erzs_frzs ds]
end
mutual
theorem pd_pt : ∀ d : D, pt d = true → ∃ x, Rf.pd d = some x ∧ PyData.canLay0 x = true ∧ PyData.depth x ≤ dep d
  | .abs, h => by cases h
  | .pin _ _, h => by cases h
  | .non, _ => ⟨_, rfl, rfl, by simp [PyData.depth]⟩
  | .bl _, _ => ⟨_, rfl, rfl, by simp [PyData.depth]⟩
  | .int _, _ => ⟨_, rfl, rfl, by simp [PyData.depth]⟩
  | .str s, h => ⟨_, rfl, h, by simp [PyData.depth]⟩
  | .obj o .lst ds, h => by
    obtain ⟨xs, e, h1, h2⟩ := pds_pt ds h
    exact ⟨.list xs, by simp [Rf.pd, e], by simp [PyData.canLay0, h1], by simp [PyData.depth, dep]; omega⟩
  | .obj o .tup ds, h => by
    obtain ⟨xs, e, h1, h2⟩ := pds_pt ds h
    exact ⟨.tuple xs, by simp [Rf.pd, e], by simp [PyData.canLay0, h1], by simp [PyData.depth, dep]; omega⟩
  | .obj o (.dic _) ds, h => by cases h
  | .obj o (.dit _) ds, h => by cases h
  | .obj o (.ins _ _) ds, h => by cases h
theorem pds_pt : ∀ ds : List D, pts ds = true → ∃ xs, pds ds = some xs ∧ PyData.canLayAll0 xs = true ∧ PyData.depthAll xs ≤ deps ds
  | [], _ => ⟨[], rfl, rfl, by simp [PyData.depthAll]⟩
  | d :: ds, h => by
    simp [pts] at h
    obtain ⟨x, e1, h1, h2⟩ := pd_pt d h.1
    obtain ⟨xs, e, h3, h4⟩ := pds_pt ds h.2
    exact ⟨x :: xs, by simp [pds, e1, e], by simp [PyData.canLayAll0, h1, h3], by simp [PyData.depthAll, deps]; omega⟩
end
theorem pdS_pt {d : D} (h : pt d = true) (hd : dep d ≤ 64) : ∃ x, pdS d = some x ∧ Rf.pd d = some x ∧ PyData.canLay0 x = true := by
  obtain ⟨x, e, h1, h2⟩ := pd_pt d h
  refine ⟨x, ?_, e, h1⟩
  unfold pdS
  rw [e, Option.bind_some, if_pos]
  simp [SeqAt.shaped, h1]
  omega
theorem eq_data {d d' : D} (h : pt d = true) (hd : dep d ≤ 64) (h' : pt d' = true) (hd' : dep d' ≤ 64) (e : erz d = erz d') : oEqD d d' = some (.bl true) ∧ oNeD d d' = some (.bl false) := by
  obtain ⟨x, e1, e2, h1⟩ := pdS_pt h hd
  obtain ⟨y, e3, e4, h2⟩ := pdS_pt h' hd'
  have : some x = some y := by rw [← e2, ← e4, ← pd_erz d, ← pd_erz d', e]
  cases this
  have hr := SeqAt.eqv_refl x h1
  exact ⟨by unfold oEqD; rw [e1, e3]; simp [hr], by unfold oNeD; rw [e1, e3]; simp [hr]⟩
mutual
theorem same_rf : ∀ d : D, pl d = true → same d d = true
  | .abs, h => by cases h
  | .pin _ _, h => by cases h
  | .non, _ => rfl
  | .bl _, _ => by simp [same]
  | .int _, _ => by simp [same]
  | .str s, _ => by simp [same]
  | .obj o .lst ds, h => by
    simp [pl] at h
    simp [same, sames_rf ds h.2]
  | .obj o .tup ds, h => by
    simp [pl] at h
    simp [same, sames_rf ds h.2]
  | .obj o (.dic _) ds, h => by cases h
  | .obj o (.dit _) ds, h => by cases h
  | .obj o (.ins _ _) ds, h => by cases h
theorem sames_rf : ∀ ds : List D, pls ds = true → sames ds ds = true
  | [], _ => by simp [sames]
  | d :: ds, h => by
    simp [pls] at h
    simp [sames, same_rf d h.1, sames_rf ds h.2]
end
theorem pls_eq (ds : List D) : pls ds = ds.all pl := by
  induction ds with
  | nil => rfl
  | cons d ds ih => simp [pls, ih]
theorem deps_le {ds : List D} {n : Nat} (h : ∀ d ∈ ds, dep d ≤ n) : deps ds ≤ n := by
  induction ds with
  | nil => simp [deps]
  | cons d ds ih =>
    have h1 := h d (by simp)
    have h2 := ih fun e he => h e (by simp [he])
    simp [deps]; omega
/-- at rest: plain data -/
theorem pl_l {xs : List D} (h : ∀ d ∈ xs, pl d = true) (hn : xs.length < 1152921504606846976) : pl (.obj .shr .lst xs) = true := by
  simp [pl, pls_eq, hn]
  exact h
theorem pl_t {xs : List D} (h : ∀ d ∈ xs, pl d = true) (hn : xs.length < 1152921504606846976) : pl (.obj .shr .tup xs) = true := by
  simp [pl, pls_eq, hn]
  exact h
theorem dep_o {o : Ow} {k : Kd} {xs : List D} {n : Nat} (h : ∀ d ∈ xs, dep d ≤ n) : dep (.obj o k xs) ≤ n + 1 := by
  have := deps_le h
  simp [dep]; omega
end Rf
namespace Rf
open PySem L2
/-! the plain side: loops over lists of anything -/
theorem loopC_mapA {α : Type} {g : TF} {t : M → R Bool} {f : M → R D} {js : List Nat} {m : M} (it y : α → D) : ∀ (xs : List α) (acc : List D), (∀ x ∈ xs, ∃ md md2, g (it x) m = some md ∧ t md = .ok true md ∧ f md = .ok (y x) md2 ∧ isAbs (y x) = false ∧ allVal js md2 = true ∧ clrs js md2 = m) → acc.length + xs.length ≤ sizeLine →
    loopC g t f js (xs.map it) acc m = .ok (acc ++ xs.map y) m
  | [], acc, _, _ => by simp [loopC]
  | x :: xs, acc, h, hl => by
    obtain ⟨md, md2, h1, h2, h3, h4, h5, h6⟩ := h x (by simp)
    rw [List.length_cons] at hl
    have ih := loopC_mapA (g := g) (t := t) (f := f) (js := js) (m := m) it y xs (acc ++ [y x]) (fun d' hd => h d' (by simp [hd])) (by simp; omega)
    rw [List.map_cons]
    unfold loopC
    rw [h1]
    simp only [h2, h3, R.bind_ok, if_true]
    rw [if_pos ⟨by omega, h4, h5⟩, h6, ih]
    simp
theorem loopC_filA {α : Type} {g : TF} {t : M → R Bool} {f : M → R D} {js : List Nat} {m : M} (p : α → Bool) (it y : α → D) : ∀ (xs : List α) (acc : List D), (∀ x ∈ xs, ∃ md, g (it x) m = some md ∧ t md = .ok (p x) md ∧ (p x = true → f md = .ok (y x) md ∧ isAbs (y x) = false) ∧ allVal js md = true ∧ clrs js md = m) → acc.length + xs.length ≤ sizeLine →
    loopC g t f js (xs.map it) acc m = .ok (acc ++ (xs.filter p).map y) m
  | [], acc, _, _ => by simp [loopC]
  | x :: xs, acc, h, hl => by
    obtain ⟨md, h1, h2, h3, h5, h6⟩ := h x (by simp)
    rw [List.length_cons] at hl
    rw [List.map_cons]
    unfold loopC
    rw [h1]
    cases hp : p x with
    | true =>
      obtain ⟨h3, h4⟩ := h3 hp
      have ih := loopC_filA (g := g) (t := t) (f := f) (js := js) (m := m) p it y xs (acc ++ [y x]) (fun d' hd => h d' (by simp [hd])) (by simp; omega)
      simp only [h2, hp, h3, R.bind_ok, if_true]
      rw [if_pos ⟨by omega, h4, h5⟩, h6, ih]
      simp [hp]
    | false =>
      have ih := loopC_filA (g := g) (t := t) (f := f) (js := js) (m := m) p it y xs acc (fun d' hd => h d' (by simp [hd])) (by omega)
      simp only [h2, hp, R.bind_ok, Bool.false_eq_true, if_false]
      rw [if_pos h5, h6, ih]
      simp [hp]
theorem dLc_run {it : M → R Itr} {g : TF} {t : M → R Bool} {f : M → R D} {js : List Nat} {m m1 mc m2 m3 : M} {w : Itr} {old ds : List D} (h1 : it m = .ok w m1) (h2 : clr js m1 = some (mc, old)) (h3 : loopC g t f js w.items [] mc = .ok ds m2) (h4 : allVal js m2 = true) (h5 : rst js old m2 = m3) : dLc it g t f js m = .ok (.obj .own .lst ds) m3 := by
  rw [dLc_ap, h1, R.bind_ok, h2]
  show R.bind (quiet _) _ = _
  rw [h3]
  simp only [quiet, R.bind_ok]
  rw [if_pos h4, h5]
theorem dFor_run {it : M → R Itr} {g : TF} {b : M → R Fl} {m m1 : M} {w : Itr} (h1 : it m = .ok w m1) : dFor it g b m = loopF g b w.items m1 := by
  show R.bind (it m) _ = _
  rw [h1]
  rfl
theorem loopF_foldA {α β : Type} {g : TF} {b : M → R Fl} (it : α → D) (Inv : β → M → Prop) (step : β → α → β) : ∀ (xs : List α) (s : β) (m : M), (∀ (pre : List α) (x : α) (post : List α), xs = pre ++ x :: post → ∀ m, Inv (pre.foldl step s) m → ∃ m1 fl m2, g (it x) m = some m1 ∧ b m1 = .ok fl m2 ∧ (fl = .nx ∨ fl = .ct) ∧ Inv (step (pre.foldl step s) x) m2) → Inv s m → ∃ m', loopF g b (xs.map it) m = .ok .nx m' ∧ Inv (xs.foldl step s) m'
  | [], s, m, _, hi => ⟨m, rfl, hi⟩
  | x :: xs, s, m, h, hi => by
    obtain ⟨m1, fl, m2, h1, h2, h3, h4⟩ := h [] x xs rfl m hi
    obtain ⟨m', q1, q2⟩ := loopF_foldA it Inv step xs (step s x) m2 (fun pre y post e m hm => h (x :: pre) y post (by rw [e]; rfl) m hm) h4
    refine ⟨m', ?_, q2⟩
    rw [List.map_cons, loopF_step h1, h2]
    rcases h3 with rfl | rfl
    · exact q1
    · exact q1
/-- numbers in a row -/
theorem ilist_r (n : Nat) : ilist 0 1 n = (List.range n).map fun (k : Nat) => D.int (k : Nat) := by
  unfold ilist
  apply List.map_congr_left
  intro k _
  congr 1
  omega
end Rf
namespace Rf
open PySem L2
open PyProof.Rows (envOfC)
/-- x op= e, e anything -/
def dAugD (i : Nat) (op : D → D → Option D) (f : M → R D) : M → R Fl := fun m => match toSc (rd m i) with
  | some x => (f m).bind fun y m => match op x y with
    | some z => if i < m.sl.length then .ok .nx (setS m i z) else .no
    | none => .no
  | none => .no
@[simp] theorem dAugD_ap (i : Nat) (op : D → D → Option D) (f : M → R D) (m : M) : dAugD i op f m = (match toSc (rd m i) with
  | some x => (f m).bind fun y m => match op x y with
    | some z => if i < m.sl.length then .ok .nx (setS m i z) else .no
    | none => .no
  | none => .no) := rfl
section
variable {X : Cx} {cl : Nat → Addr} {xc : XC} {W : WX} {e a b c tg : Expr} {es : List Expr} {f g : M → R D} {ga : M → R (List D)} {pos apos : Pos} {x : Str}
theorem st_augD {i : Nat} {x : Str} {p1 : Pos} {op : Operator} {rr : R2} {o : D → D → Option D} (hN : X.N.Nodup) (hi : X.N[i]? = some x) (hx : Loc X.env.scope x) (he : PEd X cl xc W e f) (ho : PIp X op rr) (hs : OpP rr o) (hsc : ∀ x y z, o x y = some z → isSc x = true ∧ isSc y = true) (hf : X.fn x = true ∨ X.env.scope.names.lookup x = some .local) :
    PSd X cl xc W (.AugAssign (.Name x p1) op e pos) (dAugD i o f) :=
  ps_imp (ps_aug hN hi hx he ho hf) fun Dn σ H hq => by
    obtain ⟨φ, fd, fv, F, m, lv, r, q⟩ := tS_post.mp hq
    unfold dAugD at q
    cases ex : toSc (rd m i) with
    | none => rw [ex] at q; exact q.elim
    | some x0 =>
      rw [ex] at q
      simp only at q
      obtain ⟨e1, e2⟩ := toSc_some ex
      have hi0 : isAbs (rd m i) = false := by rw [e1]; cases x0 <;> first | rfl | cases e2
      obtain ⟨q1, q2⟩ := r.at hi0
      obtain ⟨fp, h1, _⟩ := r.wf.fp
      have rp := h1 (root φ m i)
      rw [q1, e1] at rp
      have rx := rp.scal e2
      refine ⟨_, q2, tS_E (tS_post.mpr ⟨φ, fd, fv, F, m, lv, r, q⟩) fun φ fd fv F H1 m lv xv d r q => ?_⟩
      cases ez : o x0 d with
      | none => rw [ez] at q; exact q.elim
      | some z =>
        rw [ez] at q
        simp only at q
        split at q
        · rename_i hil
          obtain ⟨_, hy⟩ := hsc _ _ _ ez
          obtain ⟨f', rd⟩ := r.wf.toTop.topRep
          refine (hs x0 d z _ xv H1 _ ez rx (rd.scal hy)).2 fun v hv => ?_
          exact q F H1 _ ((r.pop.push (r.pop.wf.dup0 hv.rep)).store hil)
        · exact q.elim
theorem st_augDAdd (nd : X.N.Nodup) (i : Nat) {p1 : Pos} (he : PEd X cl xc W e f) (hi : X.N[i]? = some x := by kernel_rfl) (hx : locB X.env.scope x = true := by kernel_rfl) (hf : X.fn x = true ∨ X.env.scope.names.lookup x = some .local := by first | exact .inl rfl | exact .inr (by kernel_rfl)) : PSd X cl xc W (.AugAssign (.Name x p1) .Add e pos) (dAugD i oAddI f) :=
  st_augD nd hi (loc_of hx) he ip_add p_addI (fun _ _ _ h => sc_addI h) hf
theorem st_augDSub (nd : X.N.Nodup) (i : Nat) {p1 : Pos} (he : PEd X cl xc W e f) (hi : X.N[i]? = some x := by kernel_rfl) (hx : locB X.env.scope x = true := by kernel_rfl) (hf : X.fn x = true ∨ X.env.scope.names.lookup x = some .local := by first | exact .inl rfl | exact .inr (by kernel_rfl)) : PSd X cl xc W (.AugAssign (.Name x p1) .Sub e pos) (dAugD i oSub f) :=
  st_augD nd hi (loc_of hx) he ip_sub p_subI (fun _ _ _ h => sc_sub h) hf
end
end Rf
namespace Rf
open PySem L2
/-! lists that are built by loops over numbers -/
theorem app_len {α β : Type} (f : α → β) : ∀ (pre : List α) (s : List β), pre.foldl (fun acc r => acc ++ [f r]) s = s ++ pre.map f
  | [], s => by simp
  | a :: pre, s => by rw [List.foldl_cons, app_len f pre]; simp
/-- one item by each turn -/
theorem buildE {β : Type} {g : TF} {b : M → R Fl} (I : List β → M → Prop) (f : Nat → β) (n : Nat) (hn : n < 1000) (hb : ∀ (acc : List β) (r : Nat) (m : M), r < n → acc.length = r → I acc m → ∃ m1 m2, g (.int (r : Nat)) m = some m1 ∧ b m1 = .ok .nx m2 ∧ I (acc ++ [f r]) m2) (m : M) (h0 : I [] m) : ∃ m', loopF g b (ilist 0 1 n) m = .ok .nx m' ∧ I ((List.range n).map f) m' := by
  obtain ⟨m', el, hi⟩ := loopF_foldA (g := g) (b := b) (fun (r : Nat) => D.int (r : Nat)) I (fun acc r => acc ++ [f r]) (List.range n) [] m (by
    rintro pre r post e m hm
    have hr : r < n := by
      have : r ∈ List.range n := by rw [e]; simp
      exact List.mem_range.mp this
    have hp : pre.length = r := by
      have h1 : (List.range n)[pre.length]? = some r := by rw [e]; simp
      have h2 : pre.length < n := by
        have : (List.range n).length = pre.length + (post.length + 1) := by rw [e]; simp
        simp at this; omega
      rw [List.getElem?_range h2] at h1
      exact Option.some.inj h1
    obtain ⟨m1, m2, h1, h2, h3⟩ := hb (pre.foldl (fun acc r => acc ++ [f r]) []) r m hr (by rw [app_len]; simp [hp]) hm
    exact ⟨m1, .nx, m2, h1, h2, .inl rfl, h3⟩) h0
  rw [app_len, List.nil_append] at hi
  rw [ilist_r]
  exact ⟨m', el, hi⟩
theorem r2_nat (a s : Nat) (h : a + s < 1000000) : r2It [.int (a : Int), .int ((a : Int) + (s : Int))] = some ⟨[], ilist a 1 s⟩ := by
  have h1 : (a : Int).natAbs < 4611686018427387904 ∧ ((a : Int) + (s : Int)).natAbs < 4611686018427387904 := by omega
  have h2 : ((a : Int) + (s : Int) - (a : Int)).toNat = s := by omega
  rw [r2It_i, if_pos h1, h2]
theorem r1_nat (n : Nat) (h : n < 1000000) : r1It [.int (n : Int)] = some ⟨[], ilist 0 1 n⟩ := by
  have h1 : (n : Int).natAbs < 4611686018427387904 := by omega
  rw [r1It_i, if_pos h1, Int.toNat_natCast]
end Rf
namespace Rf
open PySem L2
/-! what is never reached -/
def dNoS : M → R Fl := fun _ => .no
def dNoD : M → R D := fun _ => .no
section
variable {X : Cx} {cl : Nat → Addr} {xc : XC} {W : WX}
theorem st_no {z : Stmt} : PSd X cl xc W z dNoS := ⟨fun pins s σ H Dn I h => by
  obtain ⟨φ, fd, fv, F, m, lv, r, q⟩ := tS_post.mp h
  exact q.elim⟩
theorem d_no {e : Expr} : PEd X cl xc W e dNoD := ⟨fun pins s σ H Q I h => by
  obtain ⟨φ, fd, fv, F, m, lv, r, q⟩ := h
  exact q.elim⟩
end
/-! x in range(a, b), x in range(a, b, c) -/
theorem q_inR (r : Addr) (a b c i : Int) (t u v k : Tok) :
    Meets (Builtin.«range.__contains__» ⟨[.ref r, .int i k], []⟩) (fun _ R s => s.heap.get? r = some { cls := .type "range", dict := none, data := .fields #[.int a t, .int b u, .int c v], slots := #[] } ∧ R (.ok (.ret (.bool (Builtin.Range.rangePlace? a b c i).isSome))) s) :=
  .of_wp fun prog w A R s h => by obtain ⟨hp, g, d, tk, os⟩ := s; obtain ⟨hl, h⟩ := h; wp_walk; exact ⟨_, rfl, h⟩
def rInR : V → List V → Hp → VK → Prop := fun x vs H Q => ∃ i a b c : Int, x = .int i ∧ (vs = [.int a, .int b] ∧ c = 1 ∨ vs = [.int a, .int b, .int c] ∧ c ≠ 0 ∧ c.natAbs < 1073741824) ∧ Q (.bl (Builtin.Range.rangePlace? a b c i).isSome) H
section
variable {X : Cx} {x y : Str} {p p2 pos pos2 : Pos} {e a b c : Expr} {es : List Expr} {te : TE} {t : TA}
def tInR (te : TE) (t : TA) : TE := fun σ H Q => te σ H fun x H1 => t σ H1 fun vs H2 => rInR x vs H2 Q
theorem pc_inR (hgy : Gl X y) (hmy : X.mg y = none) (hvy : bootBuiltins y = some (.type "range")) (he : PE X e te) (ha : PA X (a :: es) t)
    (hny : y ≠ "__name__") (hdy : (y == ("__debug__" : Str)) = false)
    (hs : starEach (a :: es) X.env = (false, eval a X.env) :: starEach es X.env) (hpl : (backTo pos2 (starEach es X.env)).any (·.1) = false) :
    PC X .In e (.Call (.Name y p2) (a :: es) [] pos2) (tInR te t) := by
  refine ⟨fun pins s σ H Q I h => ?_⟩
  refine thn (he.run pins s σ H _ I h) fun v s1 ⟨x, H1, I1, rx, q1⟩ => ?_
  refine wpAny_Call_Name_kw (ld_blt I1 hgy hmy hvy ?_ hny hdy)
  refine PyProof.Rows.callWith_type1 (thn (ha.run pos2 pins s1 σ H1 _ I1 q1) fun us s2 ⟨vs, H2, I2, r2, q2⟩ => ?_) hs hpl
  obtain ⟨i, a', b', c', rfl, hv, q⟩ := q2
  obtain ⟨k, rfl⟩ := rx
  rcases hv with ⟨rfl, rfl⟩ | ⟨rfl, c0, c1⟩
  · cases r2 with
    | cons r rr =>
    cases rr with
    | cons r' rr =>
    cases rr
    obtain ⟨t1, rfl⟩ := r
    obtain ⟨t2, rfl⟩ := r'
    refine call_range_2 ?_
    have I3 : Inv X pins σ H2 { s2 with heap := s2.heap.push { cls := .type "range", data := .fields #[.int a' t1, .int b' t2, .int 1 s2.toks] }, toks := s2.toks + 1 } := I2.kept (t' := s2.toks + 1) fun b o e => Heap.get?_push_of_some _ e
    have ho : (s2.heap.push { cls := .type "range", data := .fields #[.int a' t1, .int b' t2, .int 1 s2.toks] }).get? s2.heap.objs.size = some { cls := .type "range", data := .fields #[.int a' t1, .int b' t2, .int 1 s2.toks] } := Heap.get?_push_size _ rfl
    show wpAny _ _ (do return Value.bool (← contains (Value.ref s2.heap.objs.size) (Value.int i k))) _ _ _
    exact wpAny_bind (wpAny_contains_slot (T := "range") ⟨_, ho, rfl⟩ F.slot_range_contains (call_meets F.slot_range_contains ⟨_, ho, rfl⟩ F.entry_range_contains (F.args_range_contains_2 _ _) (q_inR _ a' b' 1 i t1 t2 _ k)
      ⟨ho, wpAny_truthy_bool (wpAny_pure ⟨.bl _, H2, I3, rfl, q⟩)⟩))
  · cases r2 with
    | cons r rr =>
    cases rr with
    | cons r' rr =>
    cases rr with
    | cons r'' rr =>
    cases rr
    obtain ⟨t1, rfl⟩ := r
    obtain ⟨t2, rfl⟩ := r'
    obtain ⟨t3, rfl⟩ := r''
    refine call_range_3 c0 ?_ (.inl (PyProof.noPylong_small c1))
    have I3 : Inv X pins σ H2 { s2 with heap := s2.heap.push { cls := .type "range", data := .fields #[.int a' t1, .int b' t2, .int c' t3] } } := I2.kept (t' := s2.toks) fun b o e => Heap.get?_push_of_some _ e
    have ho : (s2.heap.push { cls := .type "range", data := .fields #[.int a' t1, .int b' t2, .int c' t3] }).get? s2.heap.objs.size = some { cls := .type "range", data := .fields #[.int a' t1, .int b' t2, .int c' t3] } := Heap.get?_push_size _ rfl
    show wpAny _ _ (do return Value.bool (← contains (Value.ref s2.heap.objs.size) (Value.int i k))) _ _ _
    exact wpAny_bind (wpAny_contains_slot (T := "range") ⟨_, ho, rfl⟩ F.slot_range_contains (call_meets F.slot_range_contains ⟨_, ho, rfl⟩ F.entry_range_contains (F.args_range_contains_2 _ _) (q_inR _ a' b' c' i t1 t2 _ k)
      ⟨ho, wpAny_truthy_bool (wpAny_pure ⟨.bl _, H2, I3, rfl, q⟩)⟩))
end

/-- x in range(..) -/
def inR (x : D) (ds : List D) : Option D := match x, ds with
  | .int i, [.int a, .int b] => some (.bl (decide (a ≤ i ∧ i < b)))
  | .int i, [.int a, .int b, .int c] => if c ≠ 0 ∧ c.natAbs < 1073741824 then some (.bl (Builtin.Range.rangePlace? a b c i).isSome) else none
  | _, _ => none
@[simp] theorem inR_2 (i a b : Int) : inR (.int i) [.int a, .int b] = some (.bl (decide (a ≤ i ∧ i < b))) := rfl
@[simp] theorem inR_3 (i a b c : Int) : inR (.int i) [.int a, .int b, .int c] = if c ≠ 0 ∧ c.natAbs < 1073741824 then some (.bl (Builtin.Range.rangePlace? a b c i).isSome) else none := rfl
def dInR (f : M → R D) (ga : M → R (List D)) : M → R D := fun m => (f m).bind fun x m => (ga m).bind fun ds m => ofO (inR x ds) m
@[simp] theorem dInR_ap (f : M → R D) (ga : M → R (List D)) (m : M) : dInR f ga m = ((f m).bind fun x m => (ga m).bind fun ds m => ofO (inR x ds) m) := rfl
section
variable {X : Cx} {cl : Nat → Addr} {xc : XC} {W : WX} {y : Str} {p p2 pos pos2 : Pos} {e a b c : Expr} {es : List Expr} {f : M → R D} {ga : M → R (List D)}
theorem inR_of {σ : St} {H : Hp} {Q : VK} (q : tE X.K cl xc W (dInR f ga) σ H Q) : tInR (tE X.K cl xc W f) (tA X.K cl xc W ga) σ H Q :=
  tE_bind q fun φ fd fv F H1 m lv x d rl q => by
    refine ⟨_, _, _, F, m, lv, rl, ?_⟩
    cases eg : ga m with
    | no => simp only [eg, R.bind] at q
    | ex c n m1 => simp only [eg, R.bind] at q ⊢; exact fun F' H' dx r' => q F' H' dx r'.pop
    | ok ds m1 =>
      simp only [eg, R.bind] at q ⊢
      intro F2 H2 vs hl r2
      unfold ofO at q
      cases eo : inR d ds with
      | none => simp only [eo] at q
      | some z =>
        simp only [eo] at q
        obtain ⟨fx2, rx2⟩ := r2.untops.wf.toTop.topRep
        obtain ⟨fp, g1, _⟩ := r2.wf.toTops.fp
        unfold inR at eo
        split at eo
        · rename_i i a b
          cases eo
          have ex : x = .int i := rx2.1
          subst ex
          match vs, hl with
          | [v1, v2], _ =>
            obtain ⟨e1, _⟩ := g1 (.inl 0)
            obtain ⟨e2, _⟩ := g1 (.inl 1)
            have e1 : v1 = _ := e1
            have e2 : v2 = _ := e2
            subst e1 e2
            refine ⟨i, a, b, 1, rfl, .inl ⟨rfl, rfl⟩, ?_⟩
            rw [place1]
            exact q F2 H2 _ (r2.untops.pop.push (r2.untops.pop.wf.dup0 (Scal.rep rfl)))
        · rename_i i a b c
          split at eo
          · rename_i hk
            cases eo
            have ex : x = .int i := rx2.1
            subst ex
            match vs, hl with
            | [v1, v2, v3], _ =>
              obtain ⟨e1, _⟩ := g1 (.inl 0)
              obtain ⟨e2, _⟩ := g1 (.inl 1)
              obtain ⟨e3, _⟩ := g1 (.inl 2)
              have e1 : v1 = _ := e1
              have e2 : v2 = _ := e2
              have e3 : v3 = _ := e3
              subst e1 e2 e3
              exact ⟨i, a, b, c, rfl, .inr ⟨rfl, hk.1, hk.2⟩, q F2 H2 _ (r2.untops.pop.push (r2.untops.pop.wf.dup0 (Scal.rep rfl)))⟩
          · cases eo
        · cases eo
theorem d_inR (g_range : X.mg "range" = none) (he : PEd X cl xc W e f) (ha : PAd X cl xc W (a :: es) ga) (hm : behindInMarks .In (.Call (.Name "range" p2) (a :: es) [] pos2) = false := by kernel_rfl) (hg : X.env.kindOf "range" = some .globalImplicit := by kernel_rfl)
    (hs : starEach (a :: es) X.env = (false, eval a X.env) :: starEach es X.env := by kernel_rfl) (hpl : (backTo pos2 (starEach es X.env)).any (·.1) = false := by kernel_rfl) : PEd X cl xc W (.Compare e [.In] [.Call (.Name "range" p2) (a :: es) [] pos2] pos) (dInR f ga) :=
  pe_imp (pe_cmp (pc_inR hg g_range bo_range.v he ha bo_range.n bo_range.d hs hpl) hm) fun σ H Q q => inR_of q
theorem t_inR (g_range : X.mg "range" = none) (he : PEd X cl xc W e f) (ha : PAd X cl xc W (a :: es) ga) (hm : behindInMarks .In (.Call (.Name "range" p2) (a :: es) [] pos2) = false := by kernel_rfl) (hg : X.env.kindOf "range" = some .globalImplicit := by kernel_rfl)
    (hs : starEach (a :: es) X.env = (false, eval a X.env) :: starEach es X.env := by kernel_rfl) (hpl : (backTo pos2 (starEach es X.env)).any (·.1) = false := by kernel_rfl) : PTd X cl xc W (.Compare e [.In] [.Call (.Name "range" p2) (a :: es) [] pos2] pos) (dT (dInR f ga)) :=
  pt_imp (pt_cmp (pc_inR hg g_range bo_range.v he ha bo_range.n bo_range.d hs hpl) hm) fun σ H Q q => inR_of (tET q)
end
end Rf
namespace Rf
open PySem L2
/-! comprehensions with two sources -/
def loopC2 (g : TF) (t : M → R Bool) (it1 : M → R Itr) (g1 : TF) (t1 : M → R Bool) (f : M → R D) (js js1 : List Nat) : List D → List D → M → R (List D)
  | [], acc, m => .ok acc m
  | d :: ds, acc, m => match g d m with
    | none => .no
    | some m => (t m).bind fun b m => if b then (it1 m).bind fun w m => if allVal js1 m = true then (loopC g1 t1 f js1 w.items acc (clrs js1 m)).bind fun acc m => if allVal js m = true then loopC2 g t it1 g1 t1 f js js1 ds acc (clrs js m) else .no else .no
      else if allVal js m = true then loopC2 g t it1 g1 t1 f js js1 ds acc (clrs js m) else .no
def dLc2 (it : M → R Itr) (g : TF) (t : M → R Bool) (it1 : M → R Itr) (g1 : TF) (t1 : M → R Bool) (f : M → R D) (js js1 : List Nat) : M → R D := fun m => (it m).bind fun w m => match clr js m with
  | none => .no
  | some (m, old) => (quiet (loopC2 g t it1 g1 t1 f js js1 w.items [] m)).bind fun ds m => if allVal js m = true then .ok (.obj .own .lst ds) (rst js old m) else .no
section
variable {K : PySem.W.Frag} {cl : Nat → Addr} {xc : XC}
/-- the turns of an inner source -/
theorem inner_turns {g : TF} {t : M → R Bool} {f : M → R D} {js : List Nat} {σ2 : St} {Da : Addr} {w : Itr} {ψ : Type} {fdy : ψ → D} {fvy : ψ → V} {hv : List V} {J : It} {Nx : Hp → Prop} {ds acc0 : List D} {m0 m3 : M} {F0 H0 : Hp} {lv : List V}
    (hJ : ItS K cl J w.hold hv w.items)
    (r0 : Rel K cl (psh (.obj .own .lst acc0) (pshs .abs w.hold fdy)) (psh (.ref Da) (pshs .non hv fvy)) F0 H0 (wipe σ2 js) m0 lv)
    (ql0 : loopC g t f js w.items acc0 m0 = .ok ds m3)
    (fin : ∀ F H, Rel K cl (psh (.obj .own .lst ds) (pshs .abs w.hold fdy)) (psh (.ref Da) (pshs .non hv fvy)) F H (wipe σ2 js) m3 lv → Nx H) :
    ∃ W1 : Nat → Nat → Hp → Prop, (∃ m, W1 0 m H0) ∧ ∀ j k H, W1 j k H →
      (J.stop j H ∧ Nx H) ∨ (J.go j H ∧ ∃ Nx1 : Hp → Prop, (∀ H', Nx1 H' → ∃ k', k' < k ∧ W1 (j + 1) k' H') ∧ ∀ x H', J.yld j H x H' → tG K cl js g x (wipe σ2 js) H' fun σ3 H5 => wipe σ3 js = wipe σ2 js ∧ tT K cl xc W0 t σ3 H5 fun b H6 =>
        if b = true then tE K cl xc W0 f σ3 H6 fun y H7 => ∃ acc, H7 Da = some (.lst acc) ∧ acc.length < sizeLine ∧ Nx1 (upd H7 Da (.lst (acc ++ [y]))) else Nx1 H6) := by
  refine ⟨fun i n H => n = w.items.length - i ∧ i ≤ w.items.length ∧ ∃ F m acc, Rel K cl (psh (.obj .own .lst acc) (pshs .abs w.hold fdy)) (psh (.ref Da) (pshs .non hv fvy)) F H (wipe σ2 js) m lv ∧ loopC g t f js (w.items.drop i) acc m = .ok ds m3,
    ⟨w.items.length, by simp, Nat.zero_le _, F0, m0, acc0, r0, by simpa using ql0⟩, ?_⟩
  rintro i n H ⟨rfl, hi, F, m, acc, r, ql⟩
  have wh : WF K cl F H (pshs .abs w.hold (fun a : Option (Ix ψ) => match a with | none => D.obj .own .lst acc | some x => cD m fdy x)) (pshs .non hv (fun a : Option (Ix ψ) => match a with | none => V.ref Da | some x => cV (wipe σ2 js) lv fvy x)) := by
    refine r.wf.map (fun a => match a with | .inl i => some (.fr (some (.inl i))) | .inr none => some (.fr none) | .inr (some (.fr x)) => some (.fr (some (.inr x))) | .inr (some (.l k)) => some (.l k) | .inr (some (.s k)) => some (.s k)) (fun a b r h1 h2 => ?_) (fun a r h => ?_) (fun a h => ?_)
    · have e := h1.trans h2.symm
      rcases a with a | (_ | (a | a | a)) <;> rcases b with b | (_ | (b | b | b)) <;> first | rfl | (simp at e; done) | (simp at e; subst e; rfl)
    · rcases a with a | (_ | (a | a | a)) <;> (cases h; exact ⟨rfl, rfl⟩)
    · rcases a with a | (_ | (a | a | a)) <;> cases h
  obtain ⟨step, stop⟩ := hJ _ _ _ F H wh
  by_cases hlt : i < w.items.length
  · right
    obtain ⟨go, yld⟩ := step i w.items[i] (List.getElem?_eq_getElem hlt)
    refine ⟨go, fun H' => ∃ F m acc, Rel K cl (psh (.obj .own .lst acc) (pshs .abs w.hold fdy)) (psh (.ref Da) (pshs .non hv fvy)) F H' (wipe σ2 js) m lv ∧ loopC g t f js (w.items.drop (i + 1)) acc m = .ok ds m3, fun H' h => ⟨_, by omega, rfl, hlt, h⟩, fun x H' y => ?_⟩
    obtain ⟨F', w'⟩ := yld x H' y
    rw [List.drop_eq_getElem_cons hlt] at ql
    unfold loopC at ql
    cases eg : g w.items[i] m with
    | none => rw [eg] at ql; cases ql
    | some ma =>
      rw [eg] at ql
      have ql : ((t ma).bind fun b m => if b then (f m).bind fun y m => if acc.length < sizeLine ∧ isAbs y = false ∧ allVal js m = true then loopC g t f js (w.items.drop (i + 1)) (acc ++ [y]) (clrs js m) else .no
        else if allVal js m = true then loopC g t f js (w.items.drop (i + 1)) acc (clrs js m) else .no) = .ok ds m3 := ql
      have rp : Rel K cl (psh w.items[i] (psh (.obj .own .lst acc) (pshs .abs w.hold fdy))) (psh x (psh (.ref Da) (pshs .non hv fvy))) F' H' (wipe σ2 js) m lv := by
        refine ⟨w'.map (fun a => match a with | .fr none => some none | .fr (some none) => some (some (.inr none)) | .fr (some (some (.inl i))) => some (some (.inl i)) | .fr (some (some (.inr x))) => some (some (.inr (some (.fr x)))) | .l k => some (some (.inr (some (.l k)))) | .s k => some (some (.inr (some (.s k))))) (fun a b r h1 h2 => ?_) (fun a r h => ?_) (fun a h => ?_), r.ll, r.sl, r.vs, r.vl⟩
        · have e := h1.trans h2.symm
          rcases a with (_ | (_ | (a | a))) | a | a <;> rcases b with (_ | (_ | (b | b))) | b | b <;> first | rfl | (simp at e; done) | (simp at e; subst e; rfl)
        · rcases a with (_ | (_ | (a | a))) | a | a <;> (cases h; exact ⟨rfl, rfl⟩)
        · rcases a with (_ | (_ | (a | a))) | a | a <;> cases h
      refine ⟨_, _, _, F', m, lv, w.items[i], ma, rp, eg, fun F2 H2 σ3 chg r2 => ⟨wipe_chg chg, ?_⟩⟩
      have wc := wipe_chg chg
      refine ⟨_, _, _, F2, ma, lv, r2, ?_⟩
      cases et : t ma with
      | no => rw [et] at ql; cases ql
      | ex c n mb => rw [et] at ql; cases ql
      | ok b mb =>
        rw [et] at ql
        intro F3 H3 r3
        have ql : (if b then (f mb).bind fun y m => if acc.length < sizeLine ∧ isAbs y = false ∧ allVal js m = true then loopC g t f js (w.items.drop (i + 1)) (acc ++ [y]) (clrs js m) else .no
          else if allVal js mb = true then loopC g t f js (w.items.drop (i + 1)) acc (clrs js mb) else .no) = .ok ds m3 := ql
        cases b with
        | false =>
          rw [if_neg (by decide)] at ql ⊢
          split at ql
          · rename_i ha
            obtain ⟨r4, _⟩ := clrs_ok js mb r3 (noLen_of ha)
            rw [wc] at r4
            exact ⟨F3, _, acc, r4, ql⟩
          · cases ql
        | true =>
          rw [if_pos rfl] at ql ⊢
          refine ⟨_, _, _, F3, mb, lv, r3, ?_⟩
          cases ef : f mb with
          | no => rw [ef] at ql; cases ql
          | ex c n mc => rw [ef] at ql; cases ql
          | ok y mc =>
            rw [ef] at ql
            intro F4 H4 yv r4
            have ql : (if acc.length < sizeLine ∧ isAbs y = false ∧ allVal js mc = true then loopC g t f js (w.items.drop (i + 1)) (acc ++ [y]) (clrs js mc) else .no) = .ok ds m3 := ql
            split at ql
            · rename_i ha
              have wq : WF K cl F4 H4 (psh y (fun a : Option (Ix _) => match a with | none => D.obj .own .lst acc | some x => cD mc (pshs .abs w.hold fdy) x)) (psh yv (fun a : Option (Ix _) => match a with | none => V.ref Da | some x => cV σ3 lv (pshs .non hv fvy) x)) := by
                refine r4.wf.map (fun a => match a with | none => some (.fr none) | some none => some (.fr (some none)) | some (some (.fr x)) => some (.fr (some (some x))) | some (some (.l k)) => some (.l k) | some (some (.s k)) => some (.s k)) (fun a b r h1 h2 => ?_) (fun a r h => ?_) (fun a h => ?_)
                · have e := h1.trans h2.symm
                  rcases a with _ | (_ | (a | a | a)) <;> rcases b with _ | (_ | (b | b | b)) <;> first | rfl | (simp at e; done) | (simp at e; subst e; rfl)
                · rcases a with _ | (_ | (a | a | a)) <;> (cases h; exact ⟨rfl, rfl⟩)
                · rcases a with _ | (_ | (a | a | a)) <;> cases h
              obtain ⟨a', vs, u, f', va, hu, hk, hvl, ry, put⟩ := wq.mutAt none (p := []) (k := .lst) (ds := acc) dget_nil down_nil
              have va : V.ref a' = V.ref Da := va
              cases va
              have hk : u = .lst vs := hk
              subst hk
              refine ⟨vs, hu, by omega, ?_⟩
              have w5 := put (.lst (vs ++ [yv])) .lst (acc ++ [y]) (vs ++ [yv]) rfl fun fps rs nd => ⟨fps ++ f', rs.app (Reps.one ry), nd, fun b h => h⟩
              rw [dput_nil] at w5
              have r5 : Rel K cl (psh (.obj .own .lst (acc ++ [y])) (pshs .abs w.hold fdy)) (psh (.ref Da) (pshs .non hv fvy)) F4 (upd H4 Da (.lst (vs ++ [yv]))) σ3 mc lv := by
                refine ⟨w5.map (fun a => match a with | .fr none => some none | .fr (some x) => some (some (.fr x)) | .l k => some (some (.l k)) | .s k => some (some (.s k))) (fun a b r h1 h2 => ?_) (fun a r h => ?_) (fun a h => ?_), r4.ll, r4.sl, r4.vs, r4.vl⟩
                · have e := h1.trans h2.symm
                  rcases a with (_ | a) | a | a <;> rcases b with (_ | b) | b | b <;> first | rfl | (simp at e; done) | (simp at e; subst e; rfl)
                · rcases a with (_ | a) | a | a
                  · cases h; exact ⟨fset_same.symm, rfl⟩
                  · cases h; exact ⟨by rw [fset_ne (Option.some_ne_none _)]; rfl, rfl⟩
                  · cases h; exact ⟨by rw [fset_ne (Option.some_ne_none _)]; rfl, rfl⟩
                  · cases h; exact ⟨by rw [fset_ne (Option.some_ne_none _)]; rfl, rfl⟩
                · rcases a with (_ | a) | a | a <;> cases h
              obtain ⟨r6, _⟩ := clrs_ok js mc r5 (noLen_of ha.2.2)
              rw [wc] at r6
              exact ⟨F4, _, acc ++ [y], r6, ql⟩
            · cases ql
  · left
    have ei : i = w.items.length := by omega
    subst ei
    rw [List.drop_length] at ql
    simp only [loopC, R.ok.injEq] at ql
    obtain ⟨rfl, rfl⟩ := ql
    exact ⟨stop, fin F H r⟩
end
end Rf
namespace Rf
open PySem L2
theorem wipe_wipe {σ : St} {js1 js : List Nat} (h : ∀ i ∈ js1, i ∈ js) : wipe (wipe σ js1) js = wipe σ js := by
  apply List.ext_getElem?
  intro i
  rw [wipe_get, wipe_get, wipe_get, wipe_length]
  by_cases h1 : i ∈ js ∧ i < σ.length
  · rw [if_pos h1, if_pos h1]
  · rw [if_neg h1, if_neg h1]
    by_cases h2 : i ∈ js1 ∧ i < σ.length
    · exact absurd ⟨h i h2.1, h2.2⟩ h1
    · rw [if_neg h2]
section
variable {X : Cx} {cl : Nat → Addr} {xc : XC} {W : WX} {elt tg iter tg1 iter1 : Expr} {ifs ifs1 : List Expr} {scope : Scope} {own : List (Str × Nat)} {pos : Pos} {it it1 : M → R Itr} {g g1 : TF} {t t1 : M → R Bool} {f : M → R D}
theorem lc2_read {js js1 : List Nat} {σ : St} {H : Hp} {Q : VK} (hsub : ∀ i ∈ js1, i ∈ js) (hq : tE X.K cl xc W (dLc2 it g t it1 g1 t1 f js js1) σ H Q) : tLc2 (tI X.K cl xc W it) (tG X.K cl js g) (tT X.K cl xc W0 t) (tI X.K cl xc W0 it1) (tG X.K cl js1 g1) (tT X.K cl xc W0 t1) (tE X.K cl xc W0 f) js js1 σ H Q := by
  obtain ⟨φ, fd, fv, F, m, lv, r, q⟩ := hq
  refine ⟨φ, fd, fv, F, m, lv, r, ?_⟩
  unfold dLc2 at q
  cases e : it m with
  | no => simp only [e, R.bind] at q
  | ex c n m1 => simp only [e, R.bind] at q ⊢; exact q
  | ok w m1 =>
    simp only [e, R.bind] at q ⊢
    intro F1 H1 hv J hlen r1 hJ Da hDa
    cases ec : clr js m1 with
    | none => simp only [ec] at q
    | some z =>
      obtain ⟨m2, old⟩ := z
      simp only [ec] at q
      obtain ⟨ov, hol, r2, hs2, hlj, hin, back⟩ := clr_ok js m1 m2 old ec r1
      -- the loop ends well
      cases el : quiet (loopC2 g t it1 g1 t1 f js js1 w.items [] m2) with
      | no => simp only [el] at q
      | ex c n m3 => cases h : loopC2 g t it1 g1 t1 f js js1 w.items [] m2 <;> simp [h, quiet] at el
      | ok ds m3 =>
        simp only [el] at q
        have el := quiet_ok el
        by_cases hav : allVal js m3 = true
        case neg => rw [if_neg hav] at q; exact q.elim
        rw [if_pos hav] at q
        -- frames: what is held, what was kept, the new list
        refine ⟨fun i n H => n = w.items.length - i ∧ i ≤ w.items.length ∧ ∃ F m acc, Rel X.K cl (psh (.obj .own .lst acc) (pshs .abs old (pshs .abs w.hold fd))) (psh (.ref Da) (pshs .non ov (pshs .non hv fv))) F H (wipe σ js) m lv ∧ loopC2 g t it1 g1 t1 f js js1 (w.items.drop i) acc m = .ok ds m3,
          ⟨w.items.length, by simp, Nat.zero_le _, F1, m2, [], r2.push (r2.wf.newSh (ds := []) (vs := []) ⟨rfl, rfl⟩ hDa rfl), by simpa using el⟩, ?_⟩
        rintro i n H ⟨rfl, hi, F, m, acc, r, ql⟩
        have wh : WF X.K cl F H (pshs .abs w.hold (fun a : Option (Nat ⊕ Ix φ) => match a with | none => .obj .own .lst acc | some (.inl i) => old[i]?.getD .abs | some (.inr x) => cD m fd x)) (pshs .non hv (fun a : Option (Nat ⊕ Ix φ) => match a with | none => .ref Da | some (.inl i) => ov[i]?.getD .non | some (.inr x) => cV (wipe σ js) lv fv x)) := by
          refine r.wf.map (fun a => match a with | .inl i => some (.fr (some (.inr (.inl i)))) | .inr none => some (.fr none) | .inr (some (.inl i)) => some (.fr (some (.inl i))) | .inr (some (.inr (.fr x))) => some (.fr (some (.inr (.inr x)))) | .inr (some (.inr (.l k))) => some (.l k) | .inr (some (.inr (.s k))) => some (.s k)) (fun a b r h1 h2 => ?_) (fun a r h => ?_) (fun a h => ?_)
          · have e := h1.trans h2.symm
            rcases a with a | (_ | (a | (a | a | a))) <;> rcases b with b | (_ | (b | (b | b | b))) <;> first | rfl | (simp at e; done) | (simp at e; subst e; rfl)
          · rcases a with a | (_ | (a | (a | a | a))) <;> (cases h; exact ⟨rfl, rfl⟩)
          · rcases a with a | (_ | (a | (a | a | a))) <;> cases h
        obtain ⟨step, stop⟩ := hJ _ _ _ F H wh
        by_cases hlt : i < w.items.length
        · right
          obtain ⟨go, yld⟩ := step i w.items[i] (List.getElem?_eq_getElem hlt)
          refine ⟨go, fun H' => ∃ F m acc, Rel X.K cl (psh (.obj .own .lst acc) (pshs .abs old (pshs .abs w.hold fd))) (psh (.ref Da) (pshs .non ov (pshs .non hv fv))) F H' (wipe σ js) m lv ∧ loopC2 g t it1 g1 t1 f js js1 (w.items.drop (i + 1)) acc m = .ok ds m3, fun H' h => ⟨_, by omega, rfl, hlt, h⟩, fun x H' y => ?_⟩
          obtain ⟨F', w'⟩ := yld x H' y
          rw [List.drop_eq_getElem_cons hlt] at ql
          unfold loopC2 at ql
          cases eg : g w.items[i] m with
          | none => rw [eg] at ql; cases ql
          | some ma =>
            rw [eg] at ql
            have ql : ((t ma).bind fun b m => if b then (it1 m).bind fun w1 m => if allVal js1 m = true then (loopC g1 t1 f js1 w1.items acc (clrs js1 m)).bind fun acc m => if allVal js m = true then loopC2 g t it1 g1 t1 f js js1 (w.items.drop (i + 1)) acc (clrs js m) else .no else .no
              else if allVal js m = true then loopC2 g t it1 g1 t1 f js js1 (w.items.drop (i + 1)) acc (clrs js m) else .no) = .ok ds m3 := ql
            have rp : Rel X.K cl (psh w.items[i] (psh (.obj .own .lst acc) (pshs .abs old (pshs .abs w.hold fd)))) (psh x (psh (.ref Da) (pshs .non ov (pshs .non hv fv)))) F' H' (wipe σ js) m lv := by
              refine ⟨w'.map (fun a => match a with | .fr none => some none | .fr (some none) => some (some (.inr none)) | .fr (some (some (.inl i))) => some (some (.inr (some (.inl i)))) | .fr (some (some (.inr (.inl i)))) => some (some (.inl i)) | .fr (some (some (.inr (.inr x)))) => some (some (.inr (some (.inr (.fr x))))) | .l k => some (some (.inr (some (.inr (.l k))))) | .s k => some (some (.inr (some (.inr (.s k)))))) (fun a b r h1 h2 => ?_) (fun a r h => ?_) (fun a h => ?_), r.ll, r.sl, r.vs, r.vl⟩
              · have e := h1.trans h2.symm
                rcases a with (_ | (_ | (a | (a | a)))) | a | a <;> rcases b with (_ | (_ | (b | (b | b)))) | b | b <;> first | rfl | (simp at e; done) | (simp at e; subst e; rfl)
              · rcases a with (_ | (_ | (a | (a | a)))) | a | a <;> (cases h; exact ⟨rfl, rfl⟩)
              · rcases a with (_ | (_ | (a | (a | a)))) | a | a <;> cases h
            refine ⟨_, _, _, F', m, lv, w.items[i], ma, rp, eg, fun F2 H2 σ2 chg r2 => ⟨wipe_chg chg, ?_⟩⟩
            have wc := wipe_chg chg
            refine ⟨_, _, _, F2, ma, lv, r2, ?_⟩
            cases et : t ma with
            | no => rw [et] at ql; cases ql
            | ex c n mb => rw [et] at ql; cases ql
            | ok b mb =>
              rw [et] at ql
              intro F3 H3 r3
              have ql : (if b then (it1 mb).bind fun w1 m => if allVal js1 m = true then (loopC g1 t1 f js1 w1.items acc (clrs js1 m)).bind fun acc m => if allVal js m = true then loopC2 g t it1 g1 t1 f js js1 (w.items.drop (i + 1)) acc (clrs js m) else .no else .no
                else if allVal js mb = true then loopC2 g t it1 g1 t1 f js js1 (w.items.drop (i + 1)) acc (clrs js mb) else .no) = .ok ds m3 := ql
              cases b with
              | false =>
                rw [if_neg (by decide)] at ql ⊢
                split at ql
                · rename_i ha
                  obtain ⟨r4, _⟩ := clrs_ok js mb r3 (noLen_of ha)
                  rw [wc] at r4
                  exact ⟨F3, _, acc, r4, ql⟩
                · cases ql
              | true =>
                rw [if_pos rfl] at ql ⊢
                refine ⟨_, _, _, F3, mb, lv, r3, ?_⟩
                cases ef : it1 mb with
                | no => rw [ef] at ql; cases ql
                | ex c n mc => rw [ef] at ql; cases ql
                | ok w1 mc =>
                  rw [ef] at ql
                  intro F4 H4 hv1 J1 hlen1 r4 hJ1
                  have ql : (if allVal js1 mc = true then (loopC g1 t1 f js1 w1.items acc (clrs js1 mc)).bind fun acc m => if allVal js m = true then loopC2 g t it1 g1 t1 f js js1 (w.items.drop (i + 1)) acc (clrs js m) else .no else .no) = .ok ds m3 := ql
                  split at ql
                  case isFalse => cases ql
                  rename_i ha1
                  cases el1 : loopC g1 t1 f js1 w1.items acc (clrs js1 mc) with
                  | no => rw [el1] at ql; cases ql
                  | ex c n md => rw [el1] at ql; cases ql
                  | ok acc' md =>
                    rw [el1] at ql
                    have ql : (if allVal js md = true then loopC2 g t it1 g1 t1 f js js1 (w.items.drop (i + 1)) acc' (clrs js md) else .no) = .ok ds m3 := ql
                    split at ql
                    case isFalse => cases ql
                    rename_i ha2
                    obtain ⟨r5, _⟩ := clrs_ok js1 mc r4 (noLen_of ha1)
                    have r6 : Rel X.K cl (psh (.obj .own .lst acc) (pshs .abs w1.hold (pshs .abs old (pshs .abs w.hold fd)))) (psh (.ref Da) (pshs .non hv1 (pshs .non ov (pshs .non hv fv)))) F4 H4 (wipe σ2 js1) (clrs js1 mc) lv := by
                      refine ⟨r5.wf.map (fun a => match a with | .fr none => some (.fr (.inr none)) | .fr (some (.inl i)) => some (.fr (.inl i)) | .fr (some (.inr x)) => some (.fr (.inr (some x))) | .l k => some (.l k) | .s k => some (.s k)) (fun a b r h1 h2 => ?_) (fun a r h => ?_) (fun a h => ?_), r5.ll, r5.sl, r5.vs, r5.vl⟩
                      · have e := h1.trans h2.symm
                        rcases a with (_ | (a | a)) | a | a <;> rcases b with (_ | (b | b)) | b | b <;> first | rfl | (simp at e; done) | (simp at e; subst e; rfl)
                      · rcases a with (_ | (a | a)) | a | a <;> (cases h; exact ⟨rfl, rfl⟩)
                      · rcases a with (_ | (a | a)) | a | a <;> cases h
                    refine inner_turns hJ1 r6 el1 fun F H rf => ?_
                    obtain ⟨r7, _⟩ := clrs_ok js md rf (noLen_of ha2)
                    rw [wipe_wipe hsub, wc] at r7
                    have r8 : Rel X.K cl (psh (.obj .own .lst acc') (pshs .abs old (pshs .abs w.hold fd))) (psh (.ref Da) (pshs .non ov (pshs .non hv fv))) F H (wipe σ js) (clrs js md) lv := by
                      refine ⟨r7.wf.map (fun a => match a with | .fr none => some (.fr none) | .fr (some x) => some (.fr (some (.inr x))) | .l k => some (.l k) | .s k => some (.s k)) (fun a b r h1 h2 => ?_) (fun a r h => ?_) (fun a h => ?_), r7.ll, r7.sl, r7.vs, r7.vl⟩
                      · have e := h1.trans h2.symm
                        rcases a with (_ | a) | a | a <;> rcases b with (_ | b) | b | b <;> first | rfl | (simp at e; done) | (simp at e; subst e; rfl)
                      · rcases a with (_ | a) | a | a <;> (cases h; exact ⟨rfl, rfl⟩)
                      · rcases a with (_ | a) | a | a <;> cases h
                    exact ⟨F, _, acc', r8, ql⟩
        · left
          have ei : i = w.items.length := by omega
          subst ei
          rw [List.drop_length] at ql
          simp only [loopC2, R.ok.injEq] at ql
          obtain ⟨rfl, rfl⟩ := ql
          refine ⟨stop, q F H (.ref Da) ?_⟩
          -- what was kept goes back, what was held goes
          have r7 : Rel X.K cl (pshs .abs old (psh (.obj .own .lst acc) (pshs .abs w.hold fd))) (pshs .non ov (psh (.ref Da) (pshs .non hv fv))) F H (wipe σ js) m lv := by
            refine ⟨r.wf.map (fun a => match a with | .fr (.inl i) => some (.fr (some (.inl i))) | .fr (.inr none) => some (.fr none) | .fr (.inr (some x)) => some (.fr (some (.inr x))) | .l k => some (.l k) | .s k => some (.s k)) (fun a b r h1 h2 => ?_) (fun a r h => ?_) (fun a h => ?_), r.ll, r.sl, r.vs, r.vl⟩
            · have e := h1.trans h2.symm
              rcases a with (a | (_ | a)) | a | a <;> rcases b with (b | (_ | b)) | b | b <;> first | rfl | (simp at e; done) | (simp at e; subst e; rfl)
            · rcases a with (a | (_ | a)) | a | a <;> (cases h; exact ⟨rfl, rfl⟩)
            · rcases a with (a | (_ | a)) | a | a <;> cases h
          have r8 := back F H m r7 (fun j hj => (noLen_of hav j hj).1) fun j hj => (noLen_of hav j hj).2
          refine ⟨r8.wf.map (fun a => match a with | .fr none => some (.fr none) | .fr (some x) => some (.fr (some (.inr x))) | .l k => some (.l k) | .s k => some (.s k)) (fun a b r h1 h2 => ?_) (fun a r h => ?_) (fun a h => ?_), r8.ll, r8.sl, r8.vs, r8.vl⟩
          · have e := h1.trans h2.symm
            rcases a with (_ | a) | a | a <;> rcases b with (_ | b) | b | b <;> first | rfl | (simp at e; done) | (simp at e; subst e; rfl)
          · rcases a with (_ | a) | a | a <;> (cases h; exact ⟨rfl, rfl⟩)
          · rcases a with (_ | a) | a | a <;> cases h
theorem d_lc2 {vs1 : List Nat} (hc : X.calm = true) (hN : X.N.Nodup) (hi : PI X tg iter (tI X.K cl xc W it)) (ok : BlkOk X.N X.env.scope scope own) (hv : ∀ i ∈ vs1, i ∈ own.map (·.2))
    (hb : ∀ (s : Shared) (H : Hp) (C : Addr) (cs : List (Str × Addr)) (fp : List Addr), PG (X.blk s H scope (compEnvC scope cs C X.env) fp) tg (tG X.K cl (own.map (·.2)) g) ∧ PTs (X.blk s H scope (compEnvC scope cs C X.env) fp) ifs (tT X.K cl xc W0 t) ∧ PI (X.blk s H scope (compEnvC scope cs C X.env) fp) tg1 iter1 (tI X.K cl xc W0 it1) ∧ PG (X.blk s H scope (compEnvC scope cs C X.env) fp) tg1 (tG X.K cl vs1 g1) ∧ PTs (X.blk s H scope (compEnvC scope cs C X.env) fp) ifs1 (tT X.K cl xc W0 t1) ∧ PEd (X.blk s H scope (compEnvC scope cs C X.env) fp) cl xc W0 elt f)
    (hs : ∀ x, foldedSetIterable iter X.env x = pure x) (hs1 : ∀ env x, foldedSetIterable iter1 env x = pure x) : PEd X cl xc W (.ListComp elt [⟨tg, iter, ifs, 0⟩, ⟨tg1, iter1, ifs1, 0⟩] scope pos) (dLc2 it g t it1 g1 t1 f (own.map (·.2)) vs1) :=
  pe_imp (pe_lc2 hc hN hi ok hv (fun s H C cs fp => (hb s H C cs fp).1) (fun s H C cs fp => (hb s H C cs fp).2.1) (fun s H C cs fp => (hb s H C cs fp).2.2.1) (fun s H C cs fp => (hb s H C cs fp).2.2.2.1) (fun s H C cs fp => (hb s H C cs fp).2.2.2.2.1) (fun s H C cs fp => (hb s H C cs fp).2.2.2.2.2) hs hs1) fun _ _ _ h => lc2_read hv h
end
end Rf
namespace Rf
open PySem L2
section
variable {X : Cx} {cl : Nat → Addr} {xc : XC} {W : WX} {elt tg iter tg1 iter1 : Expr} {ifs ifs1 : List Expr} {scope : Scope} {pos : Pos} {it it1 : M → R Itr} {g g1 : TF} {t t1 : M → R Bool} {f : M → R D}
theorem d_lcv2 (hc : X.calm = true) (nd : X.N.Nodup) (own : List (Str × Nat)) (vs1 : List Nat) (hi : PI X tg iter (tI X.K cl xc W it))
    (hb : ∀ (s : Shared) (H : Hp) (C : Addr) (cs : List (Str × Addr)) (fp : List Addr), PG (X.blk s H scope (compEnvC scope cs C X.env) fp) tg (tG X.K cl (own.map (·.2)) g) ∧ PTs (X.blk s H scope (compEnvC scope cs C X.env) fp) ifs (tT X.K cl xc W0 t) ∧ PI (X.blk s H scope (compEnvC scope cs C X.env) fp) tg1 iter1 (tI X.K cl xc W0 it1) ∧ PG (X.blk s H scope (compEnvC scope cs C X.env) fp) tg1 (tG X.K cl vs1 g1) ∧ PTs (X.blk s H scope (compEnvC scope cs C X.env) fp) ifs1 (tT X.K cl xc W0 t1) ∧ PEd (X.blk s H scope (compEnvC scope cs C X.env) fp) cl xc W0 elt f)
    (ok : blkC X.N X.env.scope scope own = true := by kernel_rfl) (hv : ∀ i ∈ vs1, i ∈ own.map (·.2) := by decide) (hs : ∀ x, foldedSetIterable iter X.env x = pure x := by exact fun _ => by kernel_rfl) (hs1 : ∀ env x, foldedSetIterable iter1 env x = pure x := by exact fun _ _ => by kernel_rfl) :
    PEd X cl xc W (.ListComp elt [⟨tg, iter, ifs, 0⟩, ⟨tg1, iter1, ifs1, 0⟩] scope pos) (dLc2 it g t it1 g1 t1 f (own.map (·.2)) vs1) := d_lc2 hc nd hi (blkOk_by ok) hv hb hs hs1
end
@[simp] theorem dLc2_ap (it : M → R Itr) (g : TF) (t : M → R Bool) (it1 : M → R Itr) (g1 : TF) (t1 : M → R Bool) (f : M → R D) (js js1 : List Nat) (m : M) : dLc2 it g t it1 g1 t1 f js js1 m = ((it m).bind fun w m => match clr js m with
  | none => .no
  | some (m, old) => (quiet (loopC2 g t it1 g1 t1 f js js1 w.items [] m)).bind fun ds m => if allVal js m = true then .ok (.obj .own .lst ds) (rst js old m) else .no) := rfl
theorem dLc2_run {it it1 : M → R Itr} {g g1 : TF} {t t1 : M → R Bool} {f : M → R D} {js js1 : List Nat} {m m1 mc m2 m3 : M} {w : Itr} {old ds : List D} (h1 : it m = .ok w m1) (h2 : clr js m1 = some (mc, old)) (h3 : loopC2 g t it1 g1 t1 f js js1 w.items [] mc = .ok ds m2) (h4 : allVal js m2 = true) (h5 : rst js old m2 = m3) : dLc2 it g t it1 g1 t1 f js js1 m = .ok (.obj .own .lst ds) m3 := by
  rw [dLc2_ap, h1, R.bind_ok, h2]
  show R.bind (quiet _) _ = _
  rw [h3]
  simp only [quiet, R.bind_ok]
  rw [if_pos h4, h5]
/-- one turn of the outer source that keeps the state -/
theorem loopC2_step {it1 : M → R Itr} {g g1 : TF} {t t1 : M → R Bool} {f : M → R D} {js js1 : List Nat} {d : D} {ds acc acc' : List D} {m ma mb mc : M} {w : Itr} (h1 : g d m = some ma) (h2 : t ma = .ok true ma) (h3 : it1 ma = .ok w mb) (h4 : allVal js1 mb = true) (h5 : loopC g1 t1 f js1 w.items acc (clrs js1 mb) = .ok acc' mc) (h6 : allVal js mc = true) :
    loopC2 g t it1 g1 t1 f js js1 (d :: ds) acc m = loopC2 g t it1 g1 t1 f js js1 ds acc' (clrs js mc) := by
  conv => lhs; unfold loopC2
  rw [h1]
  simp only [h2, R.bind_ok, if_true, h3, h5]
  rw [if_pos h4, if_pos h6]
end Rf
namespace Rf
open PySem L2
section
variable {X : Cx}
/-- xs[i] by values -/
theorem pg_list : PGet X (fun x y H Q => rIxL X.K x y H Q) := by
  intro pins s σ H x y v u Q I rx ry h
  obtain ⟨p, xs, i, z, rfl, rfl, hq, he, q⟩ := h
  cases rx
  obtain ⟨t, rfl⟩ := ry
  obtain ⟨its, r, pl, hz⟩ := I.list hq
  obtain ⟨j, h1, h2, h3, h4, h5⟩ := atI_get he
  obtain ⟨w, ew, rw'⟩ := r.get h2
  have hl := r.length
  have hn := line63
  have fin : EP X pins σ Q w s := ⟨z, H, I, rw', q⟩
  by_cases h0 : 0 ≤ i
  · have hj : i.toNat = j := by
      rw [seqIndex_of h0 h5] at h1
      exact Option.some.inj h1
    exact wpAny_mono (wpAny_getItem_list (Q := fun r s' => r = w ∧ EP X pins σ Q r s') pl.isList h0 (by omega) (by rw [hj]; simpa using ew) ⟨rfl, fin⟩) (fun _ _ h => h.2) (fun _ _ h => h)
  · have hj : (i + (its.toArray.size : Int)).toNat = j := by
      rw [seqIndex_neg (by omega) h4] at h1
      rw [List.size_toArray, ← hl]
      exact Option.some.inj h1
    exact wpAny_mono (wpAny_getItem_list_neg (Q := fun r s' => r = w ∧ EP X pins σ Q r s') pl.isList (by omega) (by rw [List.size_toArray] <;> omega) (by omega) (by rw [hj]; simpa using ew) ⟨rfl, fin⟩) (fun _ _ h => h.2) (fun _ _ h => h)
end
end Rf
namespace Rf
open PySem L2
section
variable {K : PySem.W.Frag} {cl : Nat → Addr} {F H : Hp} {ι : Type} {rd : ι → D} {rv : ι → V}
theorem WF.mutAt2 {d' : D} {v' : V} {k : Kd} {ds : List D} (w : WF K cl F H (psh d' rd) (psh v' rv)) (i : ι) {p : List Sp1} (hg : dget (rd i) p = some (.obj .own k ds)) (hd : down (rd i) p = true) :
    ∃ a vs u f', (∃ fps, Reps K cl F H ds vs fps) ∧ VAt K cl H p (rd i) (rv i) (.ref a) ∧ H a = some u ∧ kHO cl k vs u ∧ vs.length = ds.length ∧ Rep K cl F H d' v' f' ∧ ∀ (u' : HO) (k' : Kd) (ds' : List D) (vs' : List V), kHO cl k' vs' u' →
      (∀ fps, Reps K cl F H ds vs fps → (fps ++ f').Nodup → ∃ fq, Reps K cl F H ds' vs' fq ∧ fq.Nodup ∧ ∀ b, b ∈ fq → b ∈ fps ++ f') →
        WF K cl F (upd H a u') (fset rd i (dput (rd i) p (.obj .own k' ds'))) rv := by
  obtain ⟨fp, h1, h2, h3⟩ := w.fp
  have hr := h1 (some i)
  obtain ⟨z, fx, va, rx, nx, sx, put⟩ := Rep.at w.ex p hr (h2 (some i)) hg
  obtain ⟨a, vs, fps, rfl, ⟨n1, ⟨u, n2, n3⟩, rfl⟩, rs⟩ := rx
  refine ⟨a, vs, u, fp none, ⟨fps, rs⟩, va, n2, n3, rs.len, h1 none, fun u' k' ds' vs' hu hq => ?_⟩
  have ndx := List.nodup_cons.mp nx
  have dis : ∀ b, b ∈ fps → b ∉ fp none := fun b hb hb' => by
    cases h3 (some i) none b (sx b (by simp [hb])) hb'
  obtain ⟨fq, rq, nq, mq⟩ := hq fps rs (List.nodup_append.mpr ⟨ndx.2, h2 none, fun x hx y hy e => dis x hx (e ▸ hy)⟩)
  have anone : a ∉ fp none := fun h => by cases h3 (some i) none a (sx a (by simp)) h
  have aq : a ∉ fq := fun h => by
    rcases List.mem_append.mp (mq a h) with q | q
    · exact ndx.1 q
    · exact anone q
  have rq' : Reps K cl F (upd H a u') ds' vs' fq := Reps.mono _ rq (Ex.refl F) fun b hb => ⟨(Reps.fp _ rq b hb).1, upd_ne fun e => aq (e ▸ hb)⟩
  have rx' : Rep K cl F (upd H a u') (.obj .own k' ds') (.ref a) (a :: fq) := ⟨a, vs', fq, rfl, ⟨n1, ⟨u', upd_same, hu⟩, rfl⟩, rq'⟩
  obtain ⟨fp', rp, ndp, mem⟩ := put (Ex.refl F) (fun b hb hx => ⟨(Rep.fp _ hr b hb).1, upd_ne fun e => hx (by rw [e]; simp)⟩) rx' (List.nodup_cons.mpr ⟨aq, nq⟩)
    (fun b hb => by
      rcases List.mem_cons.mp hb with e | hb
      · exact .inl (by rw [e]; simp)
      · rcases List.mem_append.mp (mq b hb) with q | q
        · exact .inl (by simp [q])
        · exact .inr fun z => by cases h3 (some i) none b z q) (.inl hd)
  have mem' : ∀ b, b ∈ fp' → b ∈ fp (some i) ∨ b ∈ fp none := fun b hb => by
    rcases mem b hb with q | q
    · rcases List.mem_cons.mp q with e | q
      · exact .inl (by rw [e]; exact sx a (by simp))
      · rcases List.mem_append.mp (mq b q) with q | q
        · exact .inl (sx b (by simp [q]))
        · exact .inr q
    · exact .inl q.1
  refine ⟨fun b o h => ?_, fset (fun r => fp (some r)) i fp', fun r => ?_, fun r => ?_, fun r r' b hb hb' => ?_⟩
  · rw [upd_ne fun e => by rw [e, n1] at h; cases h]
    exact w.ex b o h
  · by_cases q : r = i
    · subst q; rw [fset_same, fset_same]; exact rp
    · rw [fset_ne q, fset_ne q]
      refine Rep.mono _ (h1 (some r)) (Ex.refl F) fun b hb => ⟨(Rep.fp _ (h1 (some r)) b hb).1, upd_ne fun e => ?_⟩
      have := h3 (some r) (some i) b hb (by rw [e]; exact sx a (by simp))
      exact q (Option.some.inj this)
  · by_cases q : r = i
    · subst q; rw [fset_same]; exact ndp
    · rw [fset_ne q]; exact h2 _
  · have m : ∀ r, b ∈ fset (fun r => fp (some r)) i fp' r → b ∈ fp (some r) ∨ (r = i ∧ b ∈ fp none) := fun r h => by
      by_cases q : r = i
      · subst q; rw [fset_same] at h; exact (mem' b h).imp id fun z => ⟨rfl, z⟩
      · rw [fset_ne q] at h; exact .inl h
    rcases m r hb with q | ⟨q, q'⟩ <;> rcases m r' hb' with z | ⟨z, z'⟩
    · exact Option.some.inj (h3 _ _ b q z)
    · cases h3 _ _ b q z'
    · cases h3 _ _ b q' z
    · rw [q, z]
end
section
variable {K : PySem.W.Frag} {cl : Nat → Addr} {F H : Hp} {φ : Type} {fd : φ → D} {fv : φ → V} {σ : St} {m : M} {lv : List V}
theorem Rel.mutAt2 {d : D} {v : V} {i : Nat} {p : List Sp1} {k : Kd} {ds : List D} (r : Rel K cl (psh d fd) (psh v fv) F H σ m lv) (hi : isAbs (rd m i) = false) (hg : dget (rd m i) p = some (.obj .own k ds)) (hd : down (rd m i) p = true) :
    ∃ a vs u f', (∃ fps, Reps K cl F H ds vs fps) ∧ VAt K cl H p (rd m i) (cV σ lv fv (root φ m i)) (.ref a) ∧ H a = some u ∧ kHO cl k vs u ∧ vs.length = ds.length ∧ Rep K cl F H d v f' ∧ ∀ (u' : HO) (k' : Kd) (ds' : List D) (vs' : List V), kHO cl k' vs' u' →
      (∀ fps, Reps K cl F H ds vs fps → (fps ++ f').Nodup → ∃ fq, Reps K cl F H ds' vs' fq ∧ fq.Nodup ∧ ∀ b, b ∈ fq → b ∈ fps ++ f') →
        Rel K cl fd fv F (upd H a u') σ (Rf.wr m i (dput (rd m i) p (.obj .own k' ds'))) lv := by
  obtain ⟨q1, q2⟩ := r.pop.at hi
  obtain ⟨a, vs, u, f', h0, h1, h2, h3, h4, h5, h6⟩ := r.wf.toTop.mutAt2 (root φ m i) (p := p) (by rw [q1]; exact hg) (by rw [q1]; exact hd)
  rw [q1] at h1
  refine ⟨a, vs, u, f', h0, h1, h2, h3, h4, h5, fun u' k' ds' vs' hu hq => r.pop.wr hi ?_⟩
  have := h6 u' k' ds' vs' hu hq
  rw [q1] at this
  exact this
end
/-- xs[s] op= y -/
def dAugX (i : Nat) (ps : List Stp) (s : SF) (op : D → D → Option D) (y : SF) : M → R Fl := fun m => match resolve m (rd m i) ps, s m, y m with
  | some (p, .obj .own .lst xs), some (.int k), some v => if down (rd m i) p = true then match ixN xs.length k with
    | some j => match (xs[j]?).bind toSc with
      | some x => match op x v with
        | some z => .ok .nx (wr m i (dput (rd m i) p (.obj .own .lst (xs.set j z))))
        | none => .no
      | none => .no
    | none => .no
    else .no
  | _, _, _ => .no
section
variable {X : Cx} {cl : Nat → Addr} {xc : XC} {W : WX} {e a b c tg : Expr} {y : SF} {pos apos : Pos}
theorem st_augX {i : Nat} {ps : List Stp} {s : SF} {o ix : Expr} {p1 : Pos} {op : Operator} {rr : R2} {oo : D → D → Option D} (ho : PEl X cl o i ps) (hi : PEs X cl ix s) (he : PEs X cl e y) (hp : PIp X op rr) (hs : OpP rr oo) (hsc : ∀ x y z, oo x y = some z → isSc x = true ∧ isSc y = true)
    (ha : ∀ ov iv new, augStore ix ov iv new = (do holding [new, ov, iv] (setItem ov iv new); release [new, ov, iv] []; pure .next)) :
    PSd X cl xc W (.AugAssign (.Subscript o ix p1) op e pos) (dAugX i ps s oo y) :=
  ps_imp (ps_augS ho hi pg_list he hp set_list ha) fun Dn σ H hq => by
    obtain ⟨φ, fd, fv, F, m, lv, r, q⟩ := tS_post.mp hq
    unfold dAugX at q
    split at q
    case h_2 => exact q.elim
    rename_i p xs k v er es ey
    split at q
    case isFalse => exact q.elim
    rename_i hdn
    split at q
    case h_2 => exact q.elim
    rename_i j ej
    split at q
    case h_2 => exact q.elim
    rename_i x ex
    split at q
    case h_2 => exact q.elim
    rename_i z ez
    have hg := resolve_get er
    have hi0 := vat_of r hg (by simp)
    obtain ⟨a, vs, u, f', ⟨fps0, rs0⟩, va, ha', hu, hlen, rv, put⟩ := r.dummy.mutAt2 hi0 hg hdn
    have hu : u = .lst vs := hu
    subst hu
    obtain ⟨x0, ex0, ex1⟩ := Option.bind_eq_some_iff.mp ex
    obtain ⟨e1, e2⟩ := toSc_some ex1
    obtain ⟨w1, f1, fm, f2, hw1, ry, efp, back⟩ := Reps.at rs0 ex0
    subst e1
    have hx := ry.scal e2
    obtain ⟨_, hyv⟩ := hsc _ _ _ ez
    refine ⟨φ, fd, fv, F, m, lv, r, hi0, p, _, _, er, va, φ, fd, fv, F, m, lv, r, _, es, rfl, fun vk hk => ?_⟩
    have hk : vk = .int k := hk
    subst hk
    refine ⟨a, vs, k, w1, rfl, rfl, SqL.of ha', ?_, φ, fd, fv, F, m, lv, r, v, ey, hyv, fun vy hvy => ?_⟩
    · unfold atI
      rw [hlen, ej]
      exact hw1
    · refine (hs _ v z w1 vy H _ ez hx hvy).2 fun vz hvz => ?_
      refine ⟨a, vs, k, j, rfl, rfl, ha', by rw [hlen]; exact ej, ?_⟩
      have r2 := put (.lst (vs.set j vz)) .lst (xs.set j z) (vs.set j vz) rfl fun fps rs nd => by
        obtain ⟨w1, f1, fm, f2, hw1, ry, efp, back⟩ := Reps.at rs ex0
        subst efp
        have nd1 := (List.nodup_append.mp nd)
        obtain ⟨n1, n2, n3⟩ := nodup_mid nd1.1
        refine ⟨f1 ++ [] ++ f2, back (Ex.refl F) (fun b hb => ⟨(Reps.fp _ rs b (by simp at hb ⊢; rcases hb with h | h <;> simp [h])).1, rfl⟩) hvz.rep, nodup_mk List.nodup_nil (fun b hb => by simp at hb) n3, fun b hb => ?_⟩
        simp at hb ⊢; rcases hb with h | h <;> simp [h]
      exact q F _ σ r2
end
end Rf
namespace Rf
open PySem L2
@[simp] theorem dAugX_ap (i : Nat) (ps : List Stp) (s : SF) (op : D → D → Option D) (y : SF) (m : M) : dAugX i ps s op y m = (match resolve m (rd m i) ps, s m, y m with
  | some (p, .obj .own .lst xs), some (.int k), some v => if down (rd m i) p = true then match ixN xs.length k with
    | some j => match (xs[j]?).bind toSc with
      | some x => match op x v with
        | some z => .ok .nx (wr m i (dput (rd m i) p (.obj .own .lst (xs.set j z))))
        | none => .no
      | none => .no
    | none => .no
    else .no
  | _, _, _ => .no) := rfl
section
variable {X : Cx} {cl : Nat → Addr} {xc : XC} {W : WX} {e : Expr} {y : SF} {pos : Pos}
theorem st_xAdd {i : Nat} {ps : List Stp} {s : SF} {o ix : Expr} {p1 : Pos} (ho : PEl X cl o i ps) (hi : PEs X cl ix s) (he : PEs X cl e y)
    (ha : ∀ ov iv new, augStore ix ov iv new = (do holding [new, ov, iv] (setItem ov iv new); release [new, ov, iv] []; pure .next) := by exact fun _ _ _ => by kernel_rfl) :
    PSd X cl xc W (.AugAssign (.Subscript o ix p1) .Add e pos) (dAugX i ps s oAddI y) := st_augX ho hi he ip_add p_addI (fun _ _ _ h => sc_addI h) ha
theorem st_xSub {i : Nat} {ps : List Stp} {s : SF} {o ix : Expr} {p1 : Pos} (ho : PEl X cl o i ps) (hi : PEs X cl ix s) (he : PEs X cl e y)
    (ha : ∀ ov iv new, augStore ix ov iv new = (do holding [new, ov, iv] (setItem ov iv new); release [new, ov, iv] []; pure .next) := by exact fun _ _ _ => by kernel_rfl) :
    PSd X cl xc W (.AugAssign (.Subscript o ix p1) .Sub e pos) (dAugX i ps s oSub y) := st_augX ho hi he ip_sub p_subI (fun _ _ _ h => sc_sub h) ha
end
end Rf
namespace Rf
open PySem PySem.Spec PyProof.Rows L2
/-! texts: repeated, read as numbers, searched, split -/
def repS (a : Str) (n : Int) : Str := ⟨((List.replicate n.toNat a.cps.toList).flatten).toArray⟩
theorem foldl_cps (c : Array Nat) : ∀ (n : Nat) (z : Array Nat), List.foldl (· ++ ·) z (List.replicate n c) = z ++ ((List.replicate n c.toList).flatten).toArray
  | 0, z => by simp
  | n + 1, z => by
    rw [List.replicate_succ, List.foldl_cons, foldl_cps c n, List.replicate_succ, List.flatten_cons]
    apply Array.ext'
    simp
def rRepS : R2 := fun x y H Q => ∃ a n, x = .str a ∧ y = .int n ∧ (n.natAbs < 4611686018427387904 ∧ a.length * n.toNat ≤ 1000000) ∧ Q (.str (repS a n)) H
theorem op_repS {X : Cx} : OpR X (binaryOp .Mult) rRepS := by
  intro pins s σ H x y v u Q I rx ry h
  obtain ⟨a, n, rfl, rfl, ⟨h1, h2⟩, q⟩ := h
  obtain ⟨t, rfl⟩ := rx
  obtain ⟨t', rfl⟩ := ry
  have hlo : ¬ n < -(2 ^ 63 : Int) := by omega
  have hhi : ¬ n ≥ 2 ^ 63 := by omega
  have em : a.length = a.cps.toList.length := by simp [PySem.Str.length]
  refine PySem.P.mul_str (by rw [decide_eq_false hlo, decide_eq_false hhi]; rfl) (fun hn _ => ?_) (fun _ _ => ?_) ?_
  · intro hc
    have hn : 0 < n := by omega
    have e1 : ((a.length : Int)) * n ≤ 1000000 := by
      have : ((a.length * n.toNat : Nat) : Int) ≤ 1000000 := by omega
      rw [Int.natCast_mul, Int.toNat_of_nonneg (by omega)] at this
      exact this
    have e2 : ((a.length : Int)) ≤ (2 ^ 63 - 1) / n := (Int.le_ediv_iff_mul_le hn).mpr (by omega)
    omega
  · unfold Builtin.Str.tooLong
    exact decide_eq_false (by have : sizeLine = 2 ^ 24 := rfl; omega)
  · by_cases h3 : n < 1
    · rw [if_pos h3]
      refine ⟨by decide, ?_⟩
      have e : n.toNat = 0 := by omega
      have e' : repS a n = Str.empty := by unfold repS; rw [e]; rfl
      exact ⟨.str (repS a n), H, I.tok _, ⟨_, by rw [e']⟩, q⟩
    · rw [if_neg h3]
      by_cases h4 : (n == 1 || a.length == 0) = true
      · rw [if_pos h4]
        have e' : repS a n = a := by
          unfold repS
          rcases (Bool.or_eq_true _ _).mp h4 with h5 | h5
          · have : n = 1 := by simpa using h5
            subst this
            simp
          · have h6 : a.cps.toList = [] := by
              have : a.cps.toList.length = 0 := by rw [← em]; simpa using h5
              exact List.length_eq_zero_iff.mp this
            rw [h6]
            have : (List.replicate n.toNat ([] : List Nat)).flatten = [] := by simp
            rw [this]
            have : a.cps = #[] := by apply Array.ext'; simp [h6]
            cases a; simp at this; rw [this]
        exact ⟨.str (repS a n), H, I, ⟨t, by rw [e']⟩, q⟩
      · rw [if_neg h4]
        have e' : (⟨(List.replicate n.toNat a.cps).foldl (· ++ ·) #[]⟩ : Str) = repS a n := by
          unfold repS
          rw [foldl_cps]
          simp
        rw [e']
        refine ⟨?_, .str (repS a n), H, I.tok _, ⟨_, rfl⟩, q⟩
        have : (repS a n).length = n.toNat * a.length := by
          unfold repS PySem.Str.length
          simp [PySem.Str.length]
        rw [this, Nat.mul_comm]
        have : sizeLine = 2 ^ 24 := rfl
        omega
def oRepS : D → D → Option D
  | .str a, .int n => if n.natAbs < 4611686018427387904 ∧ a.length * n.toNat ≤ 1000000 then some (.str (repS a n)) else none
  | _, _ => none
@[simp] theorem oRepS_s (a : Str) (n : Int) : oRepS (.str a) (.int n) = if n.natAbs < 4611686018427387904 ∧ a.length * n.toNat ≤ 1000000 then some (.str (repS a n)) else none := rfl
theorem repS_tx (l : List Nat) (n : Int) : repS (tx l) n = tx (List.replicate n.toNat l).flatten := by
  unfold repS
  rw [tx_cps]
  rfl
theorem p_repS : OpP rRepS oRepS := by
  intro x y z vx vy H Q e hx hy
  unfold oRepS at e
  split at e
  · split at e
    · rename_i h; cases e; cases hx; cases hy
      exact ⟨rfl, fun q => ⟨_, _, rfl, rfl, h, q _ rfl⟩⟩
    · cases e
  · cases e
theorem sc_repS {x y z : D} (h : oRepS x y = some z) : isSc x = true ∧ isSc y = true := by unfold oRepS at h; split at h <;> first | exact ⟨rfl, rfl⟩ | cases h
section
variable {X : Cx} {cl : Nat → Addr} {xc : XC} {W : WX} {a b : Expr} {s t : SF} {f g : M → R D} {pos : Pos}
theorem s_repS (ha : PEs X cl a s) (hb : PEs X cl b t) : PEs X cl (.BinOp a .Mult b pos) (sBin oRepS s t) := s_bin op_repS p_repS (fun _ _ _ h => sc_repS h) ha hb
theorem d_repS (ha : PEd X cl xc W a f) (hb : PEd X cl xc W b g) : PEd X cl xc W (.BinOp a .Mult b pos) (dBin oRepS f g) := d_bin op_repS (p_repS.ops fun _ _ _ h => sc_repS h) ha hb
end
/-! int(text) -/
def bIntT : List D → Option D
  | [.str a] => if a.length ≤ 640 then (PySem.intText? a).map D.int else none
  | _ => none
@[simp] theorem bIntT_s (a : Str) : bIntT [.str a] = if a.length ≤ 640 then (PySem.intText? a).map D.int else none := rfl
section
variable {K : PySem.W.Frag} {cl : Nat → Addr} {X : Cx}
theorem b_intT : CaP K cl (fun xs H Q => ∃ a n, xs = [.str a] ∧ PySem.intText? a = some n ∧ a.length ≤ 640 ∧ Q (.int n) H) bIntT := by
  intro F H ds vs z Q ex e h
  unfold bIntT at e
  split at e
  · obtain ⟨v, fx, rfl, rfl, _⟩ := each1 h
    split at e
    · rename_i hl
      cases en : PySem.intText? (by assumption) with
      | none => rw [en] at e; cases e
      | some n =>
        rw [en] at e
        cases e
        exact ⟨rfl, fun q => ⟨_, n, rfl, en, hl, q _ rfl⟩⟩
    · cases e
  · cases e
theorem cb_intT : CaB X cl (.type "int") bIntT := ⟨_, call_int_str, b_intT⟩
end
/-! text.find(text) -/
def mFind : D → List D → Option D
  | .str a, [.str b] => some (.int (Txt.find a b))
  | _, _ => none
@[simp] theorem mFind_s (a b : Str) : mFind (.str a) [.str b] = some (.int (Txt.find a b)) := rfl
section
variable {K : PySem.W.Frag} {cl : Nat → Addr} {X : Cx}
theorem m_find : MeP K cl "str" (fun x xs H Q => ∃ a b, x = .str a ∧ xs = [.str b] ∧ Q (.int (Txt.find a b)) H) mFind := by
  refine ⟨fun F H x xs vx fx z ex e r => ?_, fun F H x xs vx vs fx z Q ex e r ev => ?_⟩
  · unfold mFind at e
    split at e
    · obtain ⟨rfl, _⟩ := r; rfl
    · cases e
  · unfold mFind at e
    split at e
    · cases e
      obtain ⟨rfl, _⟩ := r
      obtain ⟨v, fv, rfl, rfl, _⟩ := each1 ev
      exact ⟨rfl, fun q => ⟨_, _, rfl, rfl, q _ rfl⟩⟩
    · cases e
theorem mb_find : MeB X cl "str" "find" mFind := ⟨_, _, PySem.F.plainAttrs_str, PySem.F.slot_str_find, PySem.F.type_str_find, mt_find, m_find⟩
end
end Rf
namespace Rf
open PySem L2
/-! the plain side: loops by a state function -/
/-- each item turns one state into the next; v: what the loop's own slots hold by then -/
theorem loopF_st {α β γ : Type} {g : TF} {b : M → R Fl} (it : α → D) (st : β → γ → M) (step : β → α → β) : ∀ (xs : List α) (s : β) (c : γ), (∀ x ∈ xs, ∀ s c, ∃ m1 fl c', g (it x) (st s c) = some m1 ∧ b m1 = .ok fl (st (step s x) c') ∧ (fl = .nx ∨ fl = .ct)) → ∃ c', loopF g b (xs.map it) (st s c) = .ok .nx (st (xs.foldl step s) c')
  | [], s, c, _ => ⟨c, rfl⟩
  | x :: xs, s, c, h => by
    obtain ⟨m1, fl, c1, h1, h2, h3⟩ := h x (by simp) s c
    obtain ⟨c', q⟩ := loopF_st it st step xs (step s x) c1 (fun y hy s c => h y (by simp [hy]) s c)
    refine ⟨c', ?_⟩
    rw [List.map_cons, loopF_step h1, h2]
    rcases h3 with rfl | rfl
    · exact q
    · exact q
/-- the same with what holds of the states -/
theorem loopF_stP {α β γ : Type} {g : TF} {b : M → R Fl} (it : α → D) (st : β → γ → M) (P : β → Prop) (step : β → α → β) : ∀ (xs : List α) (s : β) (c : γ), P s → (∀ x ∈ xs, ∀ s c, P s → P (step s x) ∧ ∃ m1 fl c', g (it x) (st s c) = some m1 ∧ b m1 = .ok fl (st (step s x) c') ∧ (fl = .nx ∨ fl = .ct)) → P (xs.foldl step s) ∧ ∃ c', loopF g b (xs.map it) (st s c) = .ok .nx (st (xs.foldl step s) c')
  | [], s, c, hp, _ => ⟨hp, c, rfl⟩
  | x :: xs, s, c, hp, h => by
    obtain ⟨hp1, m1, fl, c1, h1, h2, h3⟩ := h x (by simp) s c hp
    obtain ⟨hp2, c', q⟩ := loopF_stP it st P step xs (step s x) c1 hp1 (fun y hy s c => h y (by simp [hy]) s c)
    refine ⟨hp2, c', ?_⟩
    rw [List.map_cons, loopF_step h1, h2]
    rcases h3 with rfl | rfl
    · exact q
    · exact q
/-- over a range -/
theorem ilist_m (lo : Int) (n : Nat) : ilist lo 1 n = (List.range n).map fun (k : Nat) => D.int (lo + (k : Nat)) := by
  unfold ilist
  apply List.map_congr_left
  intro k _
  congr 1
  omega
theorem r2_int (a b : Int) (h1 : a.natAbs < 1000000) (h2 : b.natAbs < 1000000) : r2It [.int a, .int b] = some ⟨[], (List.range (b - a).toNat).map fun (k : Nat) => D.int (a + (k : Nat))⟩ := by
  rw [r2It_i, if_pos (by omega), ilist_m]
theorem r1_int (b : Int) (h2 : b.natAbs < 1000000) : r1It [.int b] = some ⟨[], (List.range b.toNat).map fun (k : Nat) => D.int (0 + (k : Nat))⟩ := by
  rw [r1It_i, if_pos (by omega), ilist_m]
/-- a comprehension whose state is the same before and behind: items by a function -/
theorem lc_mapA {α : Type} {itf : M → R Itr} {g : TF} {f : M → R D} {js : List Nat} {m m1 mc : M} {hold old : List D} (it y : α → D) (xs : List α)
    (h1 : itf m = .ok ⟨hold, xs.map it⟩ m1) (h2 : clr js m1 = some (mc, old)) (h3 : ∀ x ∈ xs, ∃ md md2, g (it x) mc = some md ∧ f md = .ok (y x) md2 ∧ isAbs (y x) = false ∧ allVal js md2 = true ∧ clrs js md2 = mc) (h4 : xs.length ≤ 1000000) (h5 : allVal js mc = true) (h6 : rst js old mc = m1) :
    dLc itf g tYesD f js m = .ok (.obj .own .lst (xs.map y)) m1 := by
  refine dLc_run h1 h2 (loopC_mapA (m := mc) it y xs [] (fun x hx => ?_) (by rw [sizeLine_eq]; simp; omega)) h5 h6
  obtain ⟨md, md2, q1, q2, q3, q4, q5⟩ := h3 x hx
  exact ⟨md, md2, q1, rfl, q2, q3, q4, q5⟩
/-- .. whose items change nothing -/
theorem lc_mapS {α : Type} {itf : M → R Itr} {g : TF} {f : M → R D} {js : List Nat} {m m1 mc : M} {hold old : List D} (it y : α → D) (xs : List α)
    (h1 : itf m = .ok ⟨hold, xs.map it⟩ m1) (h2 : clr js m1 = some (mc, old)) (h3 : ∀ x ∈ xs, ∃ md, g (it x) mc = some md ∧ f md = .ok (y x) md ∧ isAbs (y x) = false ∧ allVal js md = true ∧ clrs js md = mc) (h4 : xs.length ≤ 1000000) (h5 : allVal js mc = true) (h6 : rst js old mc = m1) :
    dLc itf g tYesD f js m = .ok (.obj .own .lst (xs.map y)) m1 :=
  lc_mapA it y xs h1 h2 (fun x hx => by obtain ⟨md, q1, q2, q3, q4, q5⟩ := h3 x hx; exact ⟨md, md, q1, q2, q3, q4, q5⟩) h4 h5 h6
theorem lc_filA {α : Type} {itf : M → R Itr} {g : TF} {t : M → R Bool} {f : M → R D} {js : List Nat} {m m1 mc : M} {hold old : List D} (p : α → Bool) (it y : α → D) (xs : List α)
    (h1 : itf m = .ok ⟨hold, xs.map it⟩ m1) (h2 : clr js m1 = some (mc, old)) (h3 : ∀ x ∈ xs, ∃ md, g (it x) mc = some md ∧ t md = .ok (p x) md ∧ (p x = true → f md = .ok (y x) md ∧ isAbs (y x) = false) ∧ allVal js md = true ∧ clrs js md = mc) (h4 : xs.length ≤ 1000000) (h5 : allVal js mc = true) (h6 : rst js old mc = m1) :
    dLc itf g t f js m = .ok (.obj .own .lst ((xs.filter p).map y)) m1 := by
  exact dLc_run h1 h2 (loopC_filA (m := mc) p it y xs [] h3 (by rw [sizeLine_eq]; simp; omega)) h5 h6
theorem ints_map (l : List Int) : intsD (l.map D.int) = some l := by
  induction l with
  | nil => rfl
  | cons a l ih => simp [intsD, ih]
@[simp] theorem bSum_i (o : Ow) (l : List Int) : bSum [.obj o .lst (l.map D.int)] = some (.int l.sum) := by
  rw [bSum_l, ints_map]; rfl
theorem frzs_map_i (l : List Int) : frzs (l.map D.int) = l.map D.int := by
  rw [frzs_eq, List.map_map]
  rfl
/-! slices at natural places -/
theorem cut_nn {α : Type} (xs : List α) (a b : Nat) : cutD xs (some (a : Int)) (some (b : Int)) = (xs.drop a).take (b - a) := by
  unfold cutD
  rw [HT.sIx_nat, HT.sIx_nat]
  by_cases h : a ≤ xs.length
  · rw [Nat.min_eq_left h]
    by_cases h2 : b ≤ xs.length
    · rw [Nat.min_eq_left h2]
    · rw [Nat.min_eq_right (by omega), List.take_of_length_le (by rw [List.length_drop]; omega), List.take_of_length_le (by rw [List.length_drop]; omega)]
  · have e1 : List.drop a xs = [] := List.drop_of_length_le (by omega)
    have e2 : List.drop (min a xs.length) xs = [] := List.drop_of_length_le (by omega)
    rw [e1, e2]; simp
theorem cut_0n {α : Type} (xs : List α) (b : Nat) : cutD xs none (some (b : Int)) = xs.take b := by
  unfold cutD
  rw [HT.sIx_nat, HT.sIx_none, List.drop_zero, Nat.sub_zero]
  by_cases h2 : b ≤ xs.length
  · rw [Nat.min_eq_left h2]
  · rw [Nat.min_eq_right (by omega), List.take_of_length_le (Nat.le_refl _), List.take_of_length_le (by omega)]
theorem cut_n0 {α : Type} (xs : List α) (a : Nat) : cutD xs (some (a : Int)) none = xs.drop a := by
  unfold cutD
  rw [HT.sIx_nat, HT.sIx_none]
  by_cases h : a ≤ xs.length
  · rw [Nat.min_eq_left h, List.take_of_length_le (by rw [List.length_drop]; omega)]
  · have e1 : List.drop a xs = [] := List.drop_of_length_le (by omega)
    have e2 : List.drop (min a xs.length) xs = [] := List.drop_of_length_le (by omega)
    rw [e1, e2]; simp
theorem cut_00 {α : Type} (xs : List α) : cutD xs none none = xs := by
  unfold cutD
  rw [HT.sIx_none, HT.sIx_none, Nat.sub_zero, List.drop_zero, List.take_of_length_le (Nat.le_refl _)]
/-- slices from the end -/
theorem cut_neg0 {α : Type} (xs : List α) (a : Nat) (h : 0 < a) : cutD xs (some (-(a : Int))) none = xs.drop (xs.length - a) := by
  unfold cutD
  have e : HT.sIx xs.length 0 (some (-(a : Int))) = xs.length - a := by
    show (if -(a : Int) < 0 then (-(a : Int) + (xs.length : Int)).toNat else _) = _
    rw [if_pos (by omega)]
    omega
  rw [e, HT.sIx_none, List.take_of_length_le (by rw [List.length_drop]; omega)]
theorem cut_0neg {α : Type} (xs : List α) (a : Nat) (h : 0 < a) : cutD xs none (some (-(a : Int))) = xs.take (xs.length - a) := by
  unfold cutD
  have e : HT.sIx xs.length xs.length (some (-(a : Int))) = xs.length - a := by
    show (if -(a : Int) < 0 then (-(a : Int) + (xs.length : Int)).toNat else _) = _
    rw [if_pos (by omega)]
    omega
  rw [e, HT.sIx_none, List.drop_zero, Nat.sub_zero]
theorem run_rt {np ns : Nat} {b : M → R Fl} {as as' : List D} {d : D} {m m' : M} (h : as.length = np) (h0 : m0 np ns as = m) (e : b m = .ok (.rt d) m') (l : m'.ls = as') : runB np ns b as = .ok d as' := by
  rw [runB_m h, h0, e]
  show RC.ok d m'.ls = _
  rw [l]
theorem run_nx {np ns : Nat} {b : M → R Fl} {as as' : List D} {m m' : M} (h : as.length = np) (h0 : m0 np ns as = m) (e : b m = .ok .nx m') (l : m'.ls = as') : runB np ns b as = .ok .non as' := by
  rw [runB_m h, h0, e]
  show RC.ok .non m'.ls = _
  rw [l]
theorem run_ex {np ns : Nat} {b : M → R Fl} {as as' : List D} {c : Nat} {n : Option Int} {m m' : M} (h : as.length = np) (h0 : m0 np ns as = m) (e : b m = .ex c n m') (l : m'.ls = as') : runB np ns b as = .ex c n as' := by
  rw [runB_m h, h0, e]
  show RC.ex c n m'.ls = _
  rw [l]
theorem seq_ex {f g : M → R Fl} {m m' : M} {c : Nat} {n : Option Int} (h : f m = .ex c n m') : dSeq f g m = .ex c n m' := by rw [dSeq_ap, h]; rfl
end Rf
namespace Rf
open PySem L2
/-! places in short rows -/
@[simp] theorem ixL_1_0 : ixN 1 (0 : Int) = some 0 := rfl
@[simp] theorem ixL_1_m : ixN 1 (-1) = some 0 := rfl
@[simp] theorem ixL_2_0 : ixN 2 (0 : Int) = some 0 := rfl
@[simp] theorem ixL_2_1 : ixN 2 (1 : Int) = some 1 := rfl
@[simp] theorem ixL_2_m : ixN 2 (-1) = some 1 := rfl
@[simp] theorem ixL_3_0 : ixN 3 (0 : Int) = some 0 := rfl
@[simp] theorem ixL_3_1 : ixN 3 (1 : Int) = some 1 := rfl
@[simp] theorem ixL_3_2 : ixN 3 (2 : Int) = some 2 := rfl
@[simp] theorem ixL_3_m : ixN 3 (-1) = some 2 := rfl
@[simp] theorem ixL_4_0 : ixN 4 (0 : Int) = some 0 := rfl
@[simp] theorem ixL_4_1 : ixN 4 (1 : Int) = some 1 := rfl
@[simp] theorem ixL_4_2 : ixN 4 (2 : Int) = some 2 := rfl
@[simp] theorem ixL_4_3 : ixN 4 (3 : Int) = some 3 := rfl
@[simp] theorem ixL_4_m : ixN 4 (-1) = some 3 := rfl
@[simp] theorem ixL_5_0 : ixN 5 (0 : Int) = some 0 := rfl
@[simp] theorem ixL_5_1 : ixN 5 (1 : Int) = some 1 := rfl
@[simp] theorem ixL_5_2 : ixN 5 (2 : Int) = some 2 := rfl
@[simp] theorem ixL_5_3 : ixN 5 (3 : Int) = some 3 := rfl
@[simp] theorem ixL_5_4 : ixN 5 (4 : Int) = some 4 := rfl
@[simp] theorem ixL_5_m : ixN 5 (-1) = some 4 := rfl
@[simp] theorem ixL_6_0 : ixN 6 (0 : Int) = some 0 := rfl
@[simp] theorem ixL_6_1 : ixN 6 (1 : Int) = some 1 := rfl
@[simp] theorem ixL_6_2 : ixN 6 (2 : Int) = some 2 := rfl
@[simp] theorem ixL_6_3 : ixN 6 (3 : Int) = some 3 := rfl
@[simp] theorem ixL_6_4 : ixN 6 (4 : Int) = some 4 := rfl
@[simp] theorem ixL_6_5 : ixN 6 (5 : Int) = some 5 := rfl
@[simp] theorem ixL_6_m : ixN 6 (-1) = some 5 := rfl
@[simp] theorem ixL_7_0 : ixN 7 (0 : Int) = some 0 := rfl
@[simp] theorem ixL_7_1 : ixN 7 (1 : Int) = some 1 := rfl
@[simp] theorem ixL_7_2 : ixN 7 (2 : Int) = some 2 := rfl
@[simp] theorem ixL_7_3 : ixN 7 (3 : Int) = some 3 := rfl
@[simp] theorem ixL_7_4 : ixN 7 (4 : Int) = some 4 := rfl
@[simp] theorem ixL_7_5 : ixN 7 (5 : Int) = some 5 := rfl
@[simp] theorem ixL_7_6 : ixN 7 (6 : Int) = some 6 := rfl
@[simp] theorem ixL_7_m : ixN 7 (-1) = some 6 := rfl
@[simp] theorem ixL_8_0 : ixN 8 (0 : Int) = some 0 := rfl
@[simp] theorem ixL_8_1 : ixN 8 (1 : Int) = some 1 := rfl
@[simp] theorem ixL_8_2 : ixN 8 (2 : Int) = some 2 := rfl
@[simp] theorem ixL_8_3 : ixN 8 (3 : Int) = some 3 := rfl
@[simp] theorem ixL_8_4 : ixN 8 (4 : Int) = some 4 := rfl
@[simp] theorem ixL_8_5 : ixN 8 (5 : Int) = some 5 := rfl
@[simp] theorem ixL_8_6 : ixN 8 (6 : Int) = some 6 := rfl
@[simp] theorem ixL_8_7 : ixN 8 (7 : Int) = some 7 := rfl
@[simp] theorem ixL_8_m : ixN 8 (-1) = some 7 := rfl
@[simp] theorem ixL_9_0 : ixN 9 (0 : Int) = some 0 := rfl
@[simp] theorem ixL_9_1 : ixN 9 (1 : Int) = some 1 := rfl
@[simp] theorem ixL_9_2 : ixN 9 (2 : Int) = some 2 := rfl
@[simp] theorem ixL_9_3 : ixN 9 (3 : Int) = some 3 := rfl
@[simp] theorem ixL_9_4 : ixN 9 (4 : Int) = some 4 := rfl
@[simp] theorem ixL_9_5 : ixN 9 (5 : Int) = some 5 := rfl
@[simp] theorem ixL_9_6 : ixN 9 (6 : Int) = some 6 := rfl
@[simp] theorem ixL_9_7 : ixN 9 (7 : Int) = some 7 := rfl
@[simp] theorem ixL_9_8 : ixN 9 (8 : Int) = some 8 := rfl
@[simp] theorem ixL_9_m : ixN 9 (-1) = some 8 := rfl
@[simp] theorem ixL_10_0 : ixN 10 (0 : Int) = some 0 := rfl
@[simp] theorem ixL_10_1 : ixN 10 (1 : Int) = some 1 := rfl
@[simp] theorem ixL_10_2 : ixN 10 (2 : Int) = some 2 := rfl
@[simp] theorem ixL_10_3 : ixN 10 (3 : Int) = some 3 := rfl
@[simp] theorem ixL_10_4 : ixN 10 (4 : Int) = some 4 := rfl
@[simp] theorem ixL_10_5 : ixN 10 (5 : Int) = some 5 := rfl
@[simp] theorem ixL_10_6 : ixN 10 (6 : Int) = some 6 := rfl
@[simp] theorem ixL_10_7 : ixN 10 (7 : Int) = some 7 := rfl
@[simp] theorem ixL_10_8 : ixN 10 (8 : Int) = some 8 := rfl
@[simp] theorem ixL_10_9 : ixN 10 (9 : Int) = some 9 := rfl
@[simp] theorem ixL_10_m : ixN 10 (-1) = some 9 := rfl
@[simp] theorem ixL_11_0 : ixN 11 (0 : Int) = some 0 := rfl
@[simp] theorem ixL_11_1 : ixN 11 (1 : Int) = some 1 := rfl
@[simp] theorem ixL_11_2 : ixN 11 (2 : Int) = some 2 := rfl
@[simp] theorem ixL_11_3 : ixN 11 (3 : Int) = some 3 := rfl
@[simp] theorem ixL_11_4 : ixN 11 (4 : Int) = some 4 := rfl
@[simp] theorem ixL_11_5 : ixN 11 (5 : Int) = some 5 := rfl
@[simp] theorem ixL_11_6 : ixN 11 (6 : Int) = some 6 := rfl
@[simp] theorem ixL_11_7 : ixN 11 (7 : Int) = some 7 := rfl
@[simp] theorem ixL_11_8 : ixN 11 (8 : Int) = some 8 := rfl
@[simp] theorem ixL_11_9 : ixN 11 (9 : Int) = some 9 := rfl
@[simp] theorem ixL_11_10 : ixN 11 (10 : Int) = some 10 := rfl
@[simp] theorem ixL_11_m : ixN 11 (-1) = some 10 := rfl
@[simp] theorem ixL_12_0 : ixN 12 (0 : Int) = some 0 := rfl
@[simp] theorem ixL_12_1 : ixN 12 (1 : Int) = some 1 := rfl
@[simp] theorem ixL_12_2 : ixN 12 (2 : Int) = some 2 := rfl
@[simp] theorem ixL_12_3 : ixN 12 (3 : Int) = some 3 := rfl
@[simp] theorem ixL_12_4 : ixN 12 (4 : Int) = some 4 := rfl
@[simp] theorem ixL_12_5 : ixN 12 (5 : Int) = some 5 := rfl
@[simp] theorem ixL_12_6 : ixN 12 (6 : Int) = some 6 := rfl
@[simp] theorem ixL_12_7 : ixN 12 (7 : Int) = some 7 := rfl
@[simp] theorem ixL_12_8 : ixN 12 (8 : Int) = some 8 := rfl
@[simp] theorem ixL_12_9 : ixN 12 (9 : Int) = some 9 := rfl
@[simp] theorem ixL_12_10 : ixN 12 (10 : Int) = some 10 := rfl
@[simp] theorem ixL_12_11 : ixN 12 (11 : Int) = some 11 := rfl
@[simp] theorem ixL_12_m : ixN 12 (-1) = some 11 := rfl
@[simp] theorem ixL_13_0 : ixN 13 (0 : Int) = some 0 := rfl
@[simp] theorem ixL_13_1 : ixN 13 (1 : Int) = some 1 := rfl
@[simp] theorem ixL_13_2 : ixN 13 (2 : Int) = some 2 := rfl
@[simp] theorem ixL_13_3 : ixN 13 (3 : Int) = some 3 := rfl
@[simp] theorem ixL_13_4 : ixN 13 (4 : Int) = some 4 := rfl
@[simp] theorem ixL_13_5 : ixN 13 (5 : Int) = some 5 := rfl
@[simp] theorem ixL_13_6 : ixN 13 (6 : Int) = some 6 := rfl
@[simp] theorem ixL_13_7 : ixN 13 (7 : Int) = some 7 := rfl
@[simp] theorem ixL_13_8 : ixN 13 (8 : Int) = some 8 := rfl
@[simp] theorem ixL_13_9 : ixN 13 (9 : Int) = some 9 := rfl
@[simp] theorem ixL_13_10 : ixN 13 (10 : Int) = some 10 := rfl
@[simp] theorem ixL_13_11 : ixN 13 (11 : Int) = some 11 := rfl
@[simp] theorem ixL_13_12 : ixN 13 (12 : Int) = some 12 := rfl
@[simp] theorem ixL_13_m : ixN 13 (-1) = some 12 := rfl
@[simp] theorem ixL_14_0 : ixN 14 (0 : Int) = some 0 := rfl
@[simp] theorem ixL_14_1 : ixN 14 (1 : Int) = some 1 := rfl
@[simp] theorem ixL_14_2 : ixN 14 (2 : Int) = some 2 := rfl
@[simp] theorem ixL_14_3 : ixN 14 (3 : Int) = some 3 := rfl
@[simp] theorem ixL_14_4 : ixN 14 (4 : Int) = some 4 := rfl
@[simp] theorem ixL_14_5 : ixN 14 (5 : Int) = some 5 := rfl
@[simp] theorem ixL_14_6 : ixN 14 (6 : Int) = some 6 := rfl
@[simp] theorem ixL_14_7 : ixN 14 (7 : Int) = some 7 := rfl
@[simp] theorem ixL_14_8 : ixN 14 (8 : Int) = some 8 := rfl
@[simp] theorem ixL_14_9 : ixN 14 (9 : Int) = some 9 := rfl
@[simp] theorem ixL_14_10 : ixN 14 (10 : Int) = some 10 := rfl
@[simp] theorem ixL_14_11 : ixN 14 (11 : Int) = some 11 := rfl
@[simp] theorem ixL_14_12 : ixN 14 (12 : Int) = some 12 := rfl
@[simp] theorem ixL_14_13 : ixN 14 (13 : Int) = some 13 := rfl
@[simp] theorem ixL_14_m : ixN 14 (-1) = some 13 := rfl
@[simp] theorem ixL_15_0 : ixN 15 (0 : Int) = some 0 := rfl
@[simp] theorem ixL_15_1 : ixN 15 (1 : Int) = some 1 := rfl
@[simp] theorem ixL_15_2 : ixN 15 (2 : Int) = some 2 := rfl
@[simp] theorem ixL_15_3 : ixN 15 (3 : Int) = some 3 := rfl
@[simp] theorem ixL_15_4 : ixN 15 (4 : Int) = some 4 := rfl
@[simp] theorem ixL_15_5 : ixN 15 (5 : Int) = some 5 := rfl
@[simp] theorem ixL_15_6 : ixN 15 (6 : Int) = some 6 := rfl
@[simp] theorem ixL_15_7 : ixN 15 (7 : Int) = some 7 := rfl
@[simp] theorem ixL_15_8 : ixN 15 (8 : Int) = some 8 := rfl
@[simp] theorem ixL_15_9 : ixN 15 (9 : Int) = some 9 := rfl
@[simp] theorem ixL_15_10 : ixN 15 (10 : Int) = some 10 := rfl
@[simp] theorem ixL_15_11 : ixN 15 (11 : Int) = some 11 := rfl
@[simp] theorem ixL_15_12 : ixN 15 (12 : Int) = some 12 := rfl
@[simp] theorem ixL_15_13 : ixN 15 (13 : Int) = some 13 := rfl
@[simp] theorem ixL_15_14 : ixN 15 (14 : Int) = some 14 := rfl
@[simp] theorem ixL_15_m : ixN 15 (-1) = some 14 := rfl
@[simp] theorem ixL_16_0 : ixN 16 (0 : Int) = some 0 := rfl
@[simp] theorem ixL_16_1 : ixN 16 (1 : Int) = some 1 := rfl
@[simp] theorem ixL_16_2 : ixN 16 (2 : Int) = some 2 := rfl
@[simp] theorem ixL_16_3 : ixN 16 (3 : Int) = some 3 := rfl
@[simp] theorem ixL_16_4 : ixN 16 (4 : Int) = some 4 := rfl
@[simp] theorem ixL_16_5 : ixN 16 (5 : Int) = some 5 := rfl
@[simp] theorem ixL_16_6 : ixN 16 (6 : Int) = some 6 := rfl
@[simp] theorem ixL_16_7 : ixN 16 (7 : Int) = some 7 := rfl
@[simp] theorem ixL_16_8 : ixN 16 (8 : Int) = some 8 := rfl
@[simp] theorem ixL_16_9 : ixN 16 (9 : Int) = some 9 := rfl
@[simp] theorem ixL_16_10 : ixN 16 (10 : Int) = some 10 := rfl
@[simp] theorem ixL_16_11 : ixN 16 (11 : Int) = some 11 := rfl
@[simp] theorem ixL_16_12 : ixN 16 (12 : Int) = some 12 := rfl
@[simp] theorem ixL_16_13 : ixN 16 (13 : Int) = some 13 := rfl
@[simp] theorem ixL_16_14 : ixN 16 (14 : Int) = some 14 := rfl
@[simp] theorem ixL_16_15 : ixN 16 (15 : Int) = some 15 := rfl
@[simp] theorem ixL_16_m : ixN 16 (-1) = some 15 := rfl
theorem ixN_last (n : Nat) (h : 0 < n) : ixN n (-1) = some (n - 1) := by
  unfold ixN
  rw [if_neg (by decide), if_pos (by omega)]
  congr 1
  omega
theorem ifS_t {t : M → R Bool} {f g : M → R Fl} {m m' : M} {r : R Fl} (h : t m = .ok true m') (h' : f m' = r) : dIfS t f g m = r := by rw [dIfS_ap, h]; exact h'
theorem ifS_f {t : M → R Bool} {f g : M → R Fl} {m m' : M} {r : R Fl} (h : t m = .ok false m') (h' : g m' = r) : dIfS t f g m = r := by rw [dIfS_ap, h]; exact h'
theorem asg_nx {g : TF} {f : M → R D} {m m1 m' : M} {d : D} (h : f m = .ok d m1) (h' : g d m1 = some m') : dAsg g f m = .ok .nx m' := by rw [dAsg_ap, h]; show (match g d m1 with | some m => R.ok Fl.nx m | none => .no) = _; rw [h']
theorem ret_rt {f : M → R D} {m m1 : M} {d : D} (h : f m = .ok d m1) : dRet f m = .ok (.rt d) m1 := by rw [dRet_ap, h]; rfl
theorem fz_ok {f : M → R D} {m m1 : M} {d : D} (h : f m = .ok d m1) : dFz f m = .ok (frz d) m1 := by rw [dFz_ap, h]; rfl
/-- what a block returns, wherever it ends -/
def Rt (d : D) (r : R Fl) : Prop := ∃ m, r = .ok (.rt d) m
theorem ex_nx {f g : M → R Fl} {m m' : M} {d : D} (h : f m = .ok .nx m') (h' : Rt d (g m')) : Rt d (dSeq f g m) := by
  obtain ⟨z, e⟩ := h'
  exact ⟨z, seq_nx h e⟩
theorem ex_rt {f g : M → R Fl} {m : M} {d : D} (h : Rt d (f m)) : Rt d (dSeq f g m) := by
  obtain ⟨z, e⟩ := h
  exact ⟨z, seq_rt e⟩
theorem ex_ret {f : M → R D} {m m' : M} {d : D} (h : f m = .ok d m') : Rt d (dRet f m) := ⟨_, ret_rt h⟩
theorem ex_ift {t : M → R Bool} {f g : M → R Fl} {m m' : M} {d : D} (h : t m = .ok true m') (h' : Rt d (f m')) : Rt d (dIfS t f g m) := by
  obtain ⟨z, e⟩ := h'
  exact ⟨z, ifS_t h e⟩
theorem ex_iff {t : M → R Bool} {f g : M → R Fl} {m m' : M} {d : D} (h : t m = .ok false m') (h' : Rt d (g m')) : Rt d (dIfS t f g m) := by
  obtain ⟨z, e⟩ := h'
  exact ⟨z, ifS_f h e⟩
end Rf
namespace Rf
open PySem L2
/-! signs of texts -/
def dig (c : Nat) : Bool := decide (48 ≤ c) && decide (c ≤ 57)
def sml (c : Nat) : Bool := (decide (97 ≤ c) && decide (c ≤ 122)) || decide (c = 32) || decide (c = 46) || decide (c = 44) || decide (c = 45) || decide (c = 58) || decide (c = 47)
theorem dig_in (c : Nat) : decide (c ∈ ("0123456789" : Str).cps.toList) = dig c := by
  have e : ("0123456789" : Str).cps.toList = [48, 49, 50, 51, 52, 53, 54, 55, 56, 57] := by decide +kernel
  rw [e]
  unfold dig
  rw [← Bool.decide_and, decide_eq_decide]
  simp only [List.mem_cons, List.not_mem_nil, or_false]
  omega
theorem sml_in (c : Nat) : decide (c ∈ ("abcdefghijklmnopqrstuvwxyz .,-:/" : Str).cps.toList) = sml c := by
  have e : ("abcdefghijklmnopqrstuvwxyz .,-:/" : Str).cps.toList = [97, 98, 99, 100, 101, 102, 103, 104, 105, 106, 107, 108, 109, 110, 111, 112, 113, 114, 115, 116, 117, 118, 119, 120, 121, 122, 32, 46, 44, 45, 58, 47] := by decide +kernel
  rw [e]
  unfold sml
  simp only [← Bool.decide_and, ← Bool.decide_or, decide_eq_decide, List.mem_cons, List.not_mem_nil, or_false]
  omega
@[simp] theorem oInS_one (neg : Bool) (c : Nat) (w : Str) : oInS neg (.str (tx [c])) (.str w) = some (.bl (if neg then !decide (c ∈ w.cps.toList) else decide (c ∈ w.cps.toList))) := rfl
/-- the signs of texts -/
def asc (c : Nat) : Bool := decide (32 ≤ c) && decide (c ≤ 126) && !decide (c = 37)
theorem asc_in (c : Nat) : decide (c ∈ (" !\"#$&'()*+,-./:;<=>?\x40[\\]^_`{|}~0123456789ABCDEFGHIJKLMNOPQRSTUVWXYZabcdefghijklmnopqrstuvwxyz" : Str).cps.toList) = asc c := by
  have e1 : (" !\"#$&'()*+,-./:;<=>?\x40[\\]^_`{|}~0123456789ABCDEFGHIJKLMNOPQRSTUVWXYZabcdefghijklmnopqrstuvwxyz" : Str).cps.toList.all asc = true := by decide +kernel
  have e2 : (List.range 127).all (fun c => !asc c || decide (c ∈ (" !\"#$&'()*+,-./:;<=>?\x40[\\]^_`{|}~0123456789ABCDEFGHIJKLMNOPQRSTUVWXYZabcdefghijklmnopqrstuvwxyz" : Str).cps.toList)) = true := by decide +kernel
  generalize (" !\"#$&'()*+,-./:;<=>?\x40[\\]^_`{|}~0123456789ABCDEFGHIJKLMNOPQRSTUVWXYZabcdefghijklmnopqrstuvwxyz" : Str).cps.toList = L at *
  cases h : asc c with
  | false =>
    refine decide_eq_false fun hm => ?_
    rw [List.all_eq_true.mp e1 c hm] at h
    cases h
  | true =>
    have hc : c < 127 := by unfold asc at h; simp at h; omega
    have := List.all_eq_true.mp e2 c (List.mem_range.mpr hc)
    rw [h] at this
    simpa using this
theorem signs_tx (l : List Nat) : signs (tx l) = l.map fun c => .str (tx [c]) := by
  unfold signs
  rw [tx_cps]
  rfl
end Rf
namespace Rf
open PySem L2
/-! texts joined -/
theorem join_tx (a : List Nat) (ys : List (List Nat)) : Txt.join (tx a) (ys.map tx) = tx (TL.joinL a ys) := SX.join_S a ys
theorem strsD_tx : ∀ ys : List (List Nat), strsD (ys.map fun y => .str (tx y)) = some (ys.map tx)
  | [] => rfl
  | y :: ys => by
    show (strsD (ys.map fun y => .str (tx y))).map (tx y :: ·) = _
    rw [strsD_tx ys]
    rfl
theorem lens_tx (ys : List (List Nat)) : (ys.map tx).map (·.length) = ys.map (·.length) := by
  rw [List.map_map]
  apply List.map_congr_left
  intro y _
  exact tx_len y
theorem oJoin_tx (a : List Nat) (o : Ow) (ys : List (List Nat)) (h : (ys.map (·.length)).sum + ys.length * a.length ≤ 16777216) : oJoin (tx a) (.obj o .lst (ys.map fun y => .str (tx y))) = some (.str (tx (TL.joinL a ys))) := by
  show (strsD _).bind _ = _
  rw [strsD_tx]
  show (if ((ys.map tx).map (·.length)).sum + (ys.map tx).length * (tx a).length ≤ 16777216 then some (D.str (Txt.join (tx a) (ys.map tx))) else none) = _
  rw [lens_tx, List.length_map, tx_len, if_pos h, join_tx]
theorem joinL_nil : ∀ ys : List (List Nat), TL.joinL [] ys = ys.flatten
  | [] => rfl
  | [y] => by simp [TL.joinL]
  | y :: z :: r => by
    show y ++ ([] ++ TL.joinL [] (z :: r)) = _
    rw [joinL_nil (z :: r)]
    simp
/-- ''.join of single signs -/
theorem oJoin_sg (o : Ow) (l : List Nat) (h : l.length ≤ 1000000) : oJoin "" (.obj o .lst (l.map fun c => .str (tx [c]))) = some (.str (tx l)) := by
  have e := oJoin_tx [] o (l.map fun c => [c]) (by
    rw [List.map_map]
    have : ((fun x : List Nat => x.length) ∘ fun c : Nat => [c]) = fun _ => 1 := rfl
    rw [this]
    have : (l.map fun _ => 1).sum = l.length := by
      clear h
      induction l with
      | nil => rfl
      | cons a l ih => rw [List.map_cons, List.sum_cons, ih, List.length_cons]; omega
    rw [this]
    show l.length + _ * 0 ≤ _
    omega)
  rw [List.map_map, joinL_nil] at e
  have h2 : (l.map fun c => [c]).flatten = l := by
    clear e h
    induction l with
    | nil => rfl
    | cons a l ih => rw [List.map_cons, List.flatten_cons, ih]; rfl
  rw [h2] at e
  exact e
end Rf
namespace Rf
open PySem L2
/-! slices of anything whose bounds are anything -/
def dPo (a : Option (M → R D)) : M → R (Option Int) := fun m => match a with
  | none => .ok none m
  | some f => (f m).bind fun d m => match d with
    | .int i => .ok (some i) m
    | _ => .no
def dSlG (op : D → Option Int → Option Int → Option D) (f : M → R D) (a b : Option (M → R D)) : M → R D := fun m => (f m).bind fun x m => (dPo a m).bind fun lo m => (dPo b m).bind fun hi m => ofO (op x lo hi) m
@[simp] theorem dPo_n (m : M) : dPo none m = .ok none m := rfl
@[simp] theorem dPo_s (f : M → R D) (m : M) : dPo (some f) m = (f m).bind fun d m => match d with
    | .int i => .ok (some i) m
    | _ => .no := rfl
@[simp] theorem dSlG_ap (op : D → Option Int → Option Int → Option D) (f : M → R D) (a b : Option (M → R D)) (m : M) : dSlG op f a b m = ((f m).bind fun x m => (dPo a m).bind fun lo m => (dPo b m).bind fun hi m => ofO (op x lo hi) m) := rfl
@[simp] theorem oSlS_s (z : Str) (lo hi : Option Int) : oSlS (.str z) lo hi = if z.length ≤ sizeLine then some (.str (cutS z lo hi)) else none := rfl
section
variable (K : PySem.W.Frag) (cl : Nat → Addr) (xc : XC) (W : WX)
def tDo (a : Option (M → R D)) : TO := match a with
  | none => tNoPart
  | some f => tPart (tE K cl xc W f)
end
section
variable {X : Cx} {cl : Nat → Addr} {xc : XC} {W : WX} {e l h : Expr} {lo hi : Option Expr} {pos p2 : Pos} {f g : M → R D} {a b : Option (M → R D)} {σ : St}
abbrev POd (X : Cx) (cl : Nat → Addr) (xc : XC) (W : WX) (e : Option Expr) (a : Option (M → R D)) : Prop := PO X e (tDo X.K cl xc W a)
theorem pd_n : POd X cl xc W none none := po_none
theorem pd_s (hl : PEd X cl xc W l f) : POd X cl xc W (some l) (some f) := po_some hl
theorem do_next {K : PySem.W.Frag} {k : Option Int → M → R D} {φ : Type} {fd : φ → D} {fv : φ → V} {F H : Hp} {m : M} {lv : List V} {d0 : D} {v0 : V} {Q : VK} {P : Option Int → Hp → Prop} (r : Rel K cl (psh d0 fd) (psh v0 fv) F H σ m lv)
    (h : match (dPo a m).bind k with
      | .ok d m' => ∀ (F' H' : Hp) (v : V), Rel K cl (psh d fd) (psh v fv) F' H' σ m' lv → Q v H'
      | .ex c n m' => PostX K cl xc W fd fv σ lv c n m'
      | .no => False)
    (hp : ∀ (F H1 : Hp) (m : M) (o : Option Int), Rel K cl (psh d0 fd) (psh v0 fv) F H1 σ m lv → (match k o m with
      | .ok d m' => ∀ (F' H' : Hp) (v : V), Rel K cl (psh d fd) (psh v fv) F' H' σ m' lv → Q v H'
      | .ex c n m' => PostX K cl xc W fd fv σ lv c n m'
      | .no => False) → P o H1) : tDo K cl xc W a σ H P := by
  cases a with
  | none => exact hp F H m none r h
  | some f =>
    refine tE_next (g := fun d m => match d with
      | .int i => k (some i) m
      | _ => .no) (P := fun x H2 => ∃ i, x = .int i ∧ P (some i) H2) (Q := Q) r ?_ ?_
    · have e : (dPo (some f) m).bind k = (f m).bind fun d m => (match d with
        | .int i => k (some i) m
        | _ => .no) := by
        show ((f m).bind _).bind k = _
        cases f m with
        | ok d m1 => cases d <;> rfl
        | ex c n m1 => rfl
        | no => rfl
      rw [e] at h
      exact h
    · intro F1 H1 m1 x d r1 q
      cases d with
      | int i =>
        have hx : x = .int i := by
          obtain ⟨fx, rx⟩ := r1.wf.toTop.topRep
          exact rx.1
        exact ⟨i, hx, hp F1 H1 m1 (some i) r1.pop q⟩
      | _ => exact q.elim
theorem d_slS (he : PEd X cl xc W e f) (hl : POd X cl xc W lo a) (hh : POd X cl xc W hi b) : PEd X cl xc W (.Subscript e (.Slice lo hi none p2) pos) (dSlG oSlS f a b) :=
  pe_imp (pe_slice sl_str he hl hh) fun σ H Q q => tE_bind q fun φ fd fv F H1 m lv x d r1 q1 => do_next r1 q1 fun F2 H2 m2 o2 r2 q2 => do_next r2 q2 fun F3 H3 m3 o3 r3 q3 => by
    unfold ofO at q3
    cases e4 : oSlS d o2 o3 with
    | none => simp only [e4] at q3
    | some z =>
      simp only [e4] at q3
      unfold oSlS at e4
      split at e4
      · rename_i s
        split at e4
        · rename_i hs
          cases e4
          obtain ⟨fx, rx⟩ := r3.wf.toTop.topRep
          obtain ⟨rfl, _⟩ := rx
          exact ⟨s, rfl, hs, q3 F3 H3 _ (r3.pop.push (r3.pop.wf.dup0 (Scal.rep rfl)))⟩
        · cases e4
      · cases e4
theorem d_slL (he : PEd X cl xc W e f) (hl : POd X cl xc W lo a) (hh : POd X cl xc W hi b) : PEd X cl xc W (.Subscript e (.Slice lo hi none p2) pos) (dSlG oSlF f a b) :=
  pe_imp (pe_slice sl_list he hl hh) fun σ H Q q => tE_bind q fun φ fd fv F H1 m lv x d r1 q1 => do_next r1 q1 fun F2 H2 m2 o2 r2 q2 => do_next r2 q2 fun F3 H3 m3 o3 r3 q3 => by
    unfold ofO at q3
    cases e4 : oSlF d o2 o3 with
    | none => simp only [e4] at q3
    | some z =>
      simp only [e4] at q3
      unfold oSlF at e4
      split at e4
      · rename_i ow ds
        cases e4
        obtain ⟨F4, p, us, rfl, e5, w2, rs, kr, _⟩ := r3.wf.toTop.openTop
        exact ⟨p, us, rfl, kr, fun l hl => q3 F4 _ _ (r3.pop.push (w2.newSh (rs.cut o2 o3) hl rfl))⟩
      · cases e4
end
end Rf
namespace Rf
open PySem L2
/-! place.extend(a list that is looked at) -/
def dExtP (i : Nat) (ps : List Stp) (s : SF) : M → R Fl := fun m => match resolve m (rd m i) ps, s m with
  | some (p, .obj .own .lst xs), some (.obj o .lst ys) => if o ≠ .con ∧ ys.all isSh = true ∧ xs.length + ys.length ≤ sizeLine ∧ down (rd m i) p = true then .ok .nx (wr m i (dput (rd m i) p (.obj .own .lst (xs ++ ys)))) else .no
  | _, _ => .no
@[simp] theorem dExtP_ap (i : Nat) (ps : List Stp) (s : SF) (m : M) : dExtP i ps s m = (match resolve m (rd m i) ps, s m with
  | some (p, .obj .own .lst xs), some (.obj o .lst ys) => if o ≠ .con ∧ ys.all isSh = true ∧ xs.length + ys.length ≤ sizeLine ∧ down (rd m i) p = true then .ok .nx (wr m i (dput (rd m i) p (.obj .own .lst (xs ++ ys)))) else .no
  | _, _ => .no) := rfl
section
variable {X : Cx} {cl : Nat → Addr} {xc : XC} {W : WX} {e o : Expr} {s : SF} {pos apos pos' : Pos} {i : Nat} {ps : List Stp}
theorem st_extP (ho : PEl X cl o i ps) (he : PEp X cl e s) (hbase : attributeBase o "extend" X.env (eval o X.env) = eval o X.env := by kernel_rfl)
    (hfew : ((backTo pos (starEach [e] X.env)).all (fun x => !x.1) && (backToKw pos (keywordEach [] X.env)).all (fun x => x.1.isSome) && decide ([e].length + ([] : List Keyword).length + (if ([] : List Keyword).isEmpty then 0 else 1) < 30)) = true := by kernel_rfl)
    (hline : (apos.endLine == pos.line) = true := by kernel_rfl) (hss : starEach [e] X.env = (false, eval e X.env) :: starEach [] X.env := by kernel_rfl) (hplain : (backTo pos (starEach [] X.env)).any (·.1) = false := by kernel_rfl)
    (hs : swapsWith (.Call (.Attribute o "extend" apos) [e] [] pos) none pos'.line X.env = pure false := by kernel_rfl) :
    PSd X cl xc W (.Expr (.Call (.Attribute o "extend" apos) [e] [] pos) pos') (dExtP i ps s) :=
  ps_imp (ps_expr (pe_bm PySem.F.plainAttrs_list PySem.F.slot_list_extend PySem.F.type_list_extend mt_extend ho (pa_cons he pa_nil hss) hbase hfew hline hss hplain) hs) fun Dn σ H hq => by
    obtain ⟨φ, fd, fv, F, m, lv, r, q⟩ := tS_post.mp hq
    unfold dExtP at q
    split at q
    · rename_i p xs ow ys er es
      split at q
      · rename_i h3
        obtain ⟨hoc, hsh, hz, hdn⟩ := h3
        have hg := resolve_get er
        have hi0 := vat_of r hg (by simp)
        obtain ⟨A, vs, u, f', va, ha', hu, hlen, rv, put⟩ := r.dummy.mutAt hi0 hg hdn
        have hu : u = .lst vs := hu
        subst hu
        refine ⟨φ, fd, fv, F, m, lv, r, hi0, p, _, _, er, va, path_ty r ha', φ, fd, fv, F, m, lv, r, _, es, fun v fx rx => ?_⟩
        obtain ⟨b, ws, rfl, kr, ea, mb⟩ := rx.opn r.wf.ex
        obtain ⟨ub, hb, hub⟩ := mb hoc
        have hub : ub = .lst ws := hub
        subst hub
        have rb := ea.reps hsh
        have lb := rb.len
        refine ⟨A, b, vs, ws, rfl, rfl, ha', hb, by omega, ?_⟩
        have f0 : f' = [] := rv
        subst f0
        exact q F _ σ (put (.lst (vs ++ ws)) .lst (xs ++ ys) (vs ++ ws) rfl fun fps rs nd => ⟨fps ++ [], rs.app rb, nd, fun b h => h⟩)
      · exact q.elim
    · exact q.elim
end
end Rf
namespace Rf
open PySem L2
/-! a, b = x, y: stored at once -/
def dPar (i j : Nat) (g : M → R (List D)) : M → R Fl := fun m => (g m).bind fun ds m => match ds with
  | [x, y] => if i < m.sl.length ∧ j < m.sl.length then .ok .nx (setS (setS m i x) j y) else .no
  | _ => .no
@[simp] theorem dPar_ap (i j : Nat) (g : M → R (List D)) (m : M) : dPar i j g m = ((g m).bind fun ds m => match ds with
  | [x, y] => if i < m.sl.length ∧ j < m.sl.length then .ok .nx (setS (setS m i x) j y) else .no
  | _ => .no) := rfl
section
variable {K : PySem.W.Frag} {cl : Nat → Addr} {F H : Hp} {φ : Type} {fd : φ → D} {fv : φ → V} {σ : St} {m : M} {lv : List V}
theorem Rel.two {x y : D} {v w : V} (r : Rel K cl (pshs .abs [x, y] fd) (pshs .non [v, w] fv) F H σ m lv) : Rel K cl (psh x (psh y fd)) (psh v (psh w fv)) F H σ m lv := by
  refine ⟨r.wf.map (fun a => match a with
    | .fr none => some (.fr (.inl 0))
    | .fr (some none) => some (.fr (.inl 1))
    | .fr (some (some r)) => some (.fr (.inr r))
    | .l k => some (.l k)
    | .s i => some (.s i)) (fun a b r h1 h2 => ?_) (fun a r h => ?_) (fun a h => ?_), r.ll, r.sl, r.vs, r.vl⟩
  · have e := h1.trans h2.symm
    rcases a with (_ | _ | a) | a | a <;> rcases b with (_ | _ | b) | b | b <;> first | rfl | (simp at e; done) | (simp at e; subst e; rfl)
  · rcases a with (_ | _ | a) | a | a <;> (cases h; exact ⟨rfl, rfl⟩)
  · rcases a with (_ | _ | a) | a | a <;> cases h
end
section
variable {X : Cx} {cl : Nat → Addr} {xc : XC} {W : WX} {a b : Expr} {g : M → R (List D)} {x y : Str} {px py pt pos : Pos} {kt k2 : Nat} {pt2 : Pos}
theorem st_par2 (hc : X.calm = true) (nd : X.N.Nodup) (i j : Nat) (ha : PAd X cl xc W [a, b] g) (hi : X.N[i]? = some x := by kernel_rfl) (hj : X.N[j]? = some y := by kernel_rfl) (hij : i ≠ j := by decide)
    (hx : X.env.scope.names.lookup x = some .local := by kernel_rfl) (hy : X.env.scope.names.lookup y = some .local := by kernel_rfl)
    (hw : swappedStores [.Tuple [.Name x px, .Name y py] kt pt] (.Tuple [a, b] k2 pt2) X.env = pure (some [x, y]) := by kernel_rfl)
    (hs : swapsWithSole [.Tuple [.Name x px, .Name y py] kt pt] (.Tuple [a, b] k2 pt2) pos.line X.env = pure false := by kernel_rfl) :
    PSd X cl xc W (.Assign [.Tuple [.Name x px, .Name y py] kt pt] (.Tuple [a, b] k2 pt2) pos) (dPar i j g) :=
  ps_imp (ps_par hc nd hi hj hij hx hy ha hw hs) fun Dn σ H ⟨φ, fd, fv, F, m, lv, r, q⟩ => by
    refine ⟨φ, fd, fv, F, m, lv, r, ?_⟩
    unfold dPar at q
    cases eg : g m with
    | no => simp only [eg, R.bind] at q
    | ex c n m1 => simp only [eg, R.bind] at q ⊢; exact fun F' H' dx r' => q F' H' σ dx r'
    | ok ds m1 =>
      simp only [eg, R.bind] at q ⊢
      intro F' H' vs hl r'
      match ds, hl, q, r' with
      | [], _, q, _ => exact q.elim
      | [_], _, q, _ => exact q.elim
      | _ :: _ :: _ :: _, _, q, _ => exact q.elim
      | [dx, dy], hl, q, r' =>
        match vs, hl with
        | [v, w], _ =>
          refine ⟨v, w, rfl, ?_⟩
          by_cases hlen : i < m1.sl.length ∧ j < m1.sl.length
          · simp only [if_pos hlen] at q
            have r2 := (r'.two.store hlen.1).store (i := j) (by show j < (setS m1 i dx).sl.length; simp [setS, hlen.2])
            exact q F' H' _ r2
          · simp only [if_neg hlen] at q
end
/-! targets of four to seven parts -/
section
variable {X : Cx} {cl : Nat → Addr} {pos : Pos}
theorem g_t7 {a b c d e f h : Expr} {ga gb gc gd ge gf gh : TF} {js : List Nat} {k : Nat} (hc : X.calm = true) (ha : PG X a (tG X.K cl js ga)) (hb : PG X b (tG X.K cl js gb)) (hcc : PG X c (tG X.K cl js gc)) (hd : PG X d (tG X.K cl js gd)) (he : PG X e (tG X.K cl js ge)) (hf : PG X f (tG X.K cl js gf)) (hh : PG X h (tG X.K cl js gh))
    (hn : (assignEach [a, b, c, d, e, f, h] X.env).length = 7 := by kernel_rfl) (hst : (assignEach [a, b, c, d, e, f, h] X.env).findIdx? (·.1) = none := by kernel_rfl)
    (h1 : (assignEach [a, b, c, d, e, f, h] X.env).map (·.2) = assign a X.env :: (assignEach [b, c, d, e, f, h] X.env).map (·.2) := by kernel_rfl) (h2 : (assignEach [b, c, d, e, f, h] X.env).map (·.2) = assign b X.env :: (assignEach [c, d, e, f, h] X.env).map (·.2) := by kernel_rfl)
    (h3 : (assignEach [c, d, e, f, h] X.env).map (·.2) = assign c X.env :: (assignEach [d, e, f, h] X.env).map (·.2) := by kernel_rfl) (h4 : (assignEach [d, e, f, h] X.env).map (·.2) = assign d X.env :: (assignEach [e, f, h] X.env).map (·.2) := by kernel_rfl)
    (h5 : (assignEach [e, f, h] X.env).map (·.2) = assign e X.env :: (assignEach [f, h] X.env).map (·.2) := by kernel_rfl) (h6 : (assignEach [f, h] X.env).map (·.2) = assign f X.env :: (assignEach [h] X.env).map (·.2) := by kernel_rfl) (h7 : (assignEach [h] X.env).map (·.2) = assign h X.env :: (assignEach [] X.env).map (·.2) := by kernel_rfl) :
    PG X (.Tuple [a, b, c, d, e, f, h] k pos) (tG X.K cl js (gTp (gsCons ga (gsCons gb (gsCons gc (gsCons gd (gsCons ge (gsCons gf (gsCons gh gsNil))))))))) :=
  g_tup hc (gs_cons ha (gs_cons hb (gs_cons hcc (gs_cons hd (gs_cons he (gs_cons hf (gs_cons hh gs_nil h7) h6) h5) h4) h3) h2) h1) hn hst (gsLen1 (gsLen1 (gsLen1 (gsLen1 (gsLen1 (gsLen1 (gsLen1 fun _ _ _ h => gsLen0 h)))))))
end
end Rf
namespace Rf
open PySem L2
/-! list(x), tuple(x) of what is reckoned -/
theorem each_tops {K : PySem.W.Frag} {cl : Nat → Addr} {F H : Hp} {ι : Type} {rd : ι → D} {rv : ι → V} {xs : List D} {vs : List V} (hl : vs.length = xs.length) (w : WF K cl F H (pshs .abs xs rd) (pshs .non vs rv)) : Each K cl F H xs vs := by
  obtain ⟨fp, h1, _⟩ := w.fp
  have key : ∀ (xs : List D) (vs : List V), vs.length = xs.length → (∀ (i : Nat) (d : D) (v : V), xs[i]? = some d → vs[i]? = some v → ∃ fx, Rep K cl F H d v fx) → Each K cl F H xs vs := by
    intro xs
    induction xs with
    | nil => intro vs hl _; cases vs with
      | nil => trivial
      | cons v vs => cases hl
    | cons d ds ih => intro vs hl hh; cases vs with
      | nil => cases hl
      | cons v vs => exact ⟨hh 0 d v rfl rfl, ih vs (by simpa using hl) fun i d' v' e1 e2 => hh (i + 1) d' v' (by simpa using e1) (by simpa using e2)⟩
  refine key xs vs hl fun i d v e1 e2 => ⟨fp (.inl i), ?_⟩
  have := h1 (.inl i)
  simpa [pshs, e1, e2] using this
theorem CaW.cas {K : PySem.W.Frag} {cl : Nat → Addr} {r : List V → Hp → VK → Prop} {op : List D → Option D} (h : CaW K cl r op) : CaS K cl r op := fun rd rv F H xs z vs Q e hl w k =>
  h rd rv F H xs vs z Q e w.dropTops (each_tops hl w) k
section
variable {X : Cx} {cl : Nat → Addr} {xc : XC} {W : WX} {e : Expr} {es : List Expr} {ga : M → R (List D)} {x : Str} {pos : Pos}
theorem d_nTD {T : String} {op : List D → Option D} {p : Pos} (hc : CaN X cl (.type T) op) (bo : Bo x (.type T)) (hm : X.mg x = none) (ha : PAd X cl xc W (e :: es) ga) (hg : X.env.kindOf x = some .globalImplicit := by kernel_rfl)
    (he : starEach (e :: es) X.env = (false, eval e X.env) :: starEach es X.env := by kernel_rfl) (hpl : (backTo pos (starEach es X.env)).any (·.1) = false := by kernel_rfl) : PEd X cl xc W (.Call (.Name x p) (e :: es) [] pos) (dB op ga) := by
  obtain ⟨r, h1, h2⟩ := hc
  exact d_bltT h1 h2.cas hg hm bo.v ha bo.n bo.d he hpl
end
@[simp] theorem wTuple_l (o : Ow) (ds : List D) : wTuple [.obj o .lst ds] = if ds.all isSh then some (.obj .own .tup ds) else none := rfl
theorem wTuple_i (o : Ow) (ns : List Int) : wTuple [.obj o .lst (ns.map D.int)] = some (.obj .own .tup (ns.map D.int)) := by
  rw [wTuple_l, if_pos (isSh_ints ns)]
end Rf
namespace Rf
open PySem L2
/-! lists and tables of ints, told by the kernel -/
def liO (o : Ow) (l : List Int) : D := .obj o .lst (l.map D.int)
def tbO (o o' : Ow) (t : List (List Int)) : D := .obj o .lst (t.map (liO o'))
def eqI : List D → List Int → Bool
  | [], [] => true
  | .int i :: ds, j :: l => decide (i = j) && eqI ds l
  | _, _ => false
def eqRow (o : Ow) : D → List Int → Bool
  | .obj o' .lst ds, l => decide (o' = o) && eqI ds l
  | _, _ => false
def eqRows (o : Ow) : List D → List (List Int) → Bool
  | [], [] => true
  | d :: ds, l :: t => eqRow o d l && eqRows o ds t
  | _, _ => false
def eqTab (o o' : Ow) : D → List (List Int) → Bool
  | .obj a .lst ds, t => decide (a = o) && eqRows o' ds t
  | _, _ => false
theorem eqI_ok : ∀ {ds : List D} {l : List Int}, eqI ds l = true → ds = l.map D.int
  | [], [], _ => rfl
  | [], _ :: _, h => by simp [eqI] at h
  | d :: ds, [], h => by cases d <;> simp [eqI] at h
  | d :: ds, j :: l, h => by
    cases d with
    | int i =>
      have h : (decide (i = j) && eqI ds l) = true := h
      obtain ⟨h1, h2⟩ := band2 h
      rw [List.map_cons, eqI_ok h2, of_decide_eq_true h1]
    | _ => simp [eqI] at h
theorem eqRow_ok {o : Ow} {d : D} {l : List Int} (h : eqRow o d l = true) : d = liO o l := by
  cases d with
  | obj o' k ds =>
    cases k with
    | lst =>
      obtain ⟨h1, h2⟩ := band2 (show (decide (o' = o) && eqI ds l) = true from h)
      rw [of_decide_eq_true h1, eqI_ok h2]; rfl
    | _ => simp [eqRow] at h
  | _ => simp [eqRow] at h
theorem eqRows_ok {o : Ow} : ∀ {ds : List D} {t : List (List Int)}, eqRows o ds t = true → ds = t.map (liO o)
  | [], [], _ => rfl
  | [], _ :: _, h => by simp [eqRows] at h
  | _ :: _, [], h => by simp [eqRows] at h
  | d :: ds, l :: t, h => by
    obtain ⟨h1, h2⟩ := band2 (show (eqRow o d l && eqRows o ds t) = true from h)
    rw [List.map_cons, eqRow_ok h1, eqRows_ok h2]
theorem eqTab_ok {o o' : Ow} {d : D} {t : List (List Int)} (h : eqTab o o' d t = true) : d = tbO o o' t := by
  cases d with
  | obj a k ds =>
    cases k with
    | lst =>
      obtain ⟨h1, h2⟩ := band2 (show (decide (a = o) && eqRows o' ds t) = true from h)
      rw [of_decide_eq_true h1, eqRows_ok h2]; rfl
    | _ => simp [eqTab] at h
  | _ => simp [eqTab] at h
theorem frz_li (o : Ow) (ho : o ≠ .con) (l : List Int) : frz (liO o l) = liO .shr l := by
  cases o with
  | con => exact absurd rfl ho
  | own => simp [liO, frz, frzs_map_i]
  | shr => simp [liO, frz]
theorem frzs_rows (o : Ow) (ho : o ≠ .con) (t : List (List Int)) : frzs (t.map (liO o)) = t.map (liO .shr) := by
  rw [frzs_eq, List.map_map]
  apply List.map_congr_left
  intro l _
  exact frz_li o ho l
theorem frz_tb (o' : Ow) (ho' : o' ≠ .con) (t : List (List Int)) : frz (tbO .own o' t) = tbO .shr .shr t := by
  show frz (.obj .own .lst (t.map (liO o'))) = _
  rw [show frz (.obj .own .lst (t.map (liO o'))) = .obj .shr .lst (frzs (t.map (liO o'))) from rfl, frzs_rows o' ho']
  rfl
theorem pl_li (l : List Int) (h : l.length ≤ 1000000) : pl (liO .shr l) = true := pl_l (fun d hd => by obtain ⟨j, _, rfl⟩ := List.mem_map.mp hd; rfl) (by rw [List.length_map]; omega)
theorem dep_li (o : Ow) (l : List Int) : dep (liO o l) ≤ 1 := dep_o (n := 0) (fun d hd => by obtain ⟨j, _, rfl⟩ := List.mem_map.mp hd; simp [dep])
theorem pl_tb (t : List (List Int)) (h : t.length ≤ 1000000) (hr : ∀ l ∈ t, l.length ≤ 1000000) : pl (tbO .shr .shr t) = true := pl_l (fun d hd => by obtain ⟨l, hl, rfl⟩ := List.mem_map.mp hd; exact pl_li l (hr l hl)) (by rw [List.length_map]; omega)
theorem dep_tb (o o' : Ow) (t : List (List Int)) : dep (tbO o o' t) ≤ 2 := dep_o (n := 1) (fun d hd => by obtain ⟨l, _, rfl⟩ := List.mem_map.mp hd; exact dep_li o' l)
/-! tables of n rows told by a function -/
def rowsN (o : Ow) (n : Nat) (T : Nat → List Int) : List D := (List.range n).map fun r => liO o (T r)
theorem rowsN_len (o : Ow) (n : Nat) (T : Nat → List Int) : (rowsN o n T).length = n := by simp [rowsN]
theorem rowsN_at (o : Ow) (n : Nat) (T : Nat → List Int) (r : Nat) (h : r < n) : (rowsN o n T)[r]? = some (liO o (T r)) := by
  unfold rowsN
  rw [List.getElem?_map, List.getElem?_range h]; rfl
theorem rowsN_set (o : Ow) (n : Nat) (T : Nat → List Int) (r : Nat) (h : r < n) (x : List Int) : (rowsN o n T).set r (liO o x) = rowsN o n (fun i => if i = r then x else T i) := by
  apply List.ext_getElem?
  intro i
  by_cases hi : i < n
  · rw [rowsN_at _ _ _ _ hi]
    by_cases e : i = r
    · subst e
      rw [List.getElem?_set_self (by rw [rowsN_len]; exact h), if_pos rfl]
    · rw [List.getElem?_set_ne (Ne.symm e), rowsN_at _ _ _ _ hi, if_neg e]
  · rw [List.getElem?_eq_none (by rw [List.length_set, rowsN_len]; omega), List.getElem?_eq_none (by rw [rowsN_len]; omega)]
theorem rowsN_tb (o o' : Ow) (n : Nat) (T : Nat → List Int) : D.obj o .lst (rowsN o' n T) = tbO o o' ((List.range n).map T) := by
  unfold tbO rowsN
  rw [List.map_map]
  rfl
/-! one row of a table is changed in its place -/
theorem down_ix {rs : List D} {i : Nat} (h : i < rs.length) : down (.obj .own .lst rs) [.ix i] = true := by
  unfold down
  show (decide (Ow.own = Ow.own) && match kix rs.length .lst (.ix i) with | some j => down (rs[j]?.getD .abs) [] | none => false) = true
  have : kix rs.length .lst (.ix i) = some i := if_pos h
  rw [this]
  show (true && down _ []) = true
  unfold down
  rfl
theorem dput_ix {o : Ow} {rs : List D} {i : Nat} (h : i < rs.length) (x : D) : dput (.obj o .lst rs) [.ix i] x = .obj o .lst (rs.set i x) := by
  unfold dput
  have : kix rs.length .lst (.ix i) = some i := if_pos h
  simp only [this]
  unfold dput
  rfl
end Rf
namespace Rf
open PySem L2
/-! targets of four parts and more; lists unpacked -/
def gTl (gs : List D → M → Option M) : TF := fun d m => match d with
  | .obj _ .lst xs => gs (frzs xs) m
  | _ => none
@[simp] theorem gTl_ap (gs : List D → M → Option M) (d : D) (m : M) : gTl gs d m = (match d with
  | .obj _ .lst xs => gs (frzs xs) m
  | _ => none) := rfl
section
variable {X : Cx} {cl : Nat → Addr} {pos : Pos} {es : List Expr}
theorem g_unl {js : List Nat} {k : Nat} {tgs : List D → M → Option M} {n : Nat} (hc : X.calm = true) (h : PGs X es (tGs X.K cl js tgs)) (hn : (assignEach es X.env).length = n) (hst : (assignEach es X.env).findIdx? (·.1) = none) (hlen : ∀ ds m m', tgs ds m = some m' → ds.length = n) : PG X (.Tuple es k pos) (tG X.K cl js (gTl tgs)) := by
  refine ⟨fun pins s σ H v u Q I r hq => (pg_unl hc h hn hst).run pins s σ H v u Q I r ?_⟩
  obtain ⟨φ, fd, fv, F, m, lv, d, m', rr, e, q⟩ := hq
  unfold gTl at e
  split at e
  · rename_i o xs
    obtain ⟨F1, a, vs, rfl, e1, w1, rb, kb, _⟩ := rr.wf.toTop.openTop
    have hl := hlen _ _ _ e
    rw [frzs_len] at hl
    refine ⟨a, vs, rfl, kb, by rw [rb.len, frzs_len]; exact hl, φ, fd, fv, F1, m, lv, frzs xs, m', rr.pop.with w1, rb, e, q⟩
  · cases e
theorem g_l2 {a b : Expr} {ga gb : TF} {js : List Nat} {k : Nat} (hcalm : X.calm = true) (ha : PG X a (tG X.K cl js ga)) (hb : PG X b (tG X.K cl js gb)) (hn : (assignEach [a, b] X.env).length = 2 := by kernel_rfl) (hst : (assignEach [a, b] X.env).findIdx? (·.1) = none := by kernel_rfl) (q0 : (assignEach [a, b] X.env).map (·.2) = assign a X.env :: (assignEach [b] X.env).map (·.2) := by kernel_rfl) (q1 : (assignEach [b] X.env).map (·.2) = assign b X.env :: (assignEach [] X.env).map (·.2) := by kernel_rfl) :
    PG X (.Tuple [a, b] k pos) (tG X.K cl js (gTl (gsCons ga (gsCons gb gsNil)))) :=
  g_unl hcalm (gs_cons ha (gs_cons hb gs_nil q1) q0) hn hst (gsLen1 (gsLen1 (fun _ _ _ h => gsLen0 h)))
theorem g_l3 {a b c : Expr} {ga gb gc : TF} {js : List Nat} {k : Nat} (hcalm : X.calm = true) (ha : PG X a (tG X.K cl js ga)) (hb : PG X b (tG X.K cl js gb)) (hc : PG X c (tG X.K cl js gc)) (hn : (assignEach [a, b, c] X.env).length = 3 := by kernel_rfl) (hst : (assignEach [a, b, c] X.env).findIdx? (·.1) = none := by kernel_rfl) (q0 : (assignEach [a, b, c] X.env).map (·.2) = assign a X.env :: (assignEach [b, c] X.env).map (·.2) := by kernel_rfl) (q1 : (assignEach [b, c] X.env).map (·.2) = assign b X.env :: (assignEach [c] X.env).map (·.2) := by kernel_rfl) (q2 : (assignEach [c] X.env).map (·.2) = assign c X.env :: (assignEach [] X.env).map (·.2) := by kernel_rfl) :
    PG X (.Tuple [a, b, c] k pos) (tG X.K cl js (gTl (gsCons ga (gsCons gb (gsCons gc gsNil))))) :=
  g_unl hcalm (gs_cons ha (gs_cons hb (gs_cons hc gs_nil q2) q1) q0) hn hst (gsLen1 (gsLen1 (gsLen1 (fun _ _ _ h => gsLen0 h))))
theorem g_t4 {a b c d : Expr} {ga gb gc gd : TF} {js : List Nat} {k : Nat} (hcalm : X.calm = true) (ha : PG X a (tG X.K cl js ga)) (hb : PG X b (tG X.K cl js gb)) (hc : PG X c (tG X.K cl js gc)) (hd : PG X d (tG X.K cl js gd)) (hn : (assignEach [a, b, c, d] X.env).length = 4 := by kernel_rfl) (hst : (assignEach [a, b, c, d] X.env).findIdx? (·.1) = none := by kernel_rfl) (q0 : (assignEach [a, b, c, d] X.env).map (·.2) = assign a X.env :: (assignEach [b, c, d] X.env).map (·.2) := by kernel_rfl) (q1 : (assignEach [b, c, d] X.env).map (·.2) = assign b X.env :: (assignEach [c, d] X.env).map (·.2) := by kernel_rfl) (q2 : (assignEach [c, d] X.env).map (·.2) = assign c X.env :: (assignEach [d] X.env).map (·.2) := by kernel_rfl) (q3 : (assignEach [d] X.env).map (·.2) = assign d X.env :: (assignEach [] X.env).map (·.2) := by kernel_rfl) :
    PG X (.Tuple [a, b, c, d] k pos) (tG X.K cl js (gTp (gsCons ga (gsCons gb (gsCons gc (gsCons gd gsNil)))))) :=
  g_tup hcalm (gs_cons ha (gs_cons hb (gs_cons hc (gs_cons hd gs_nil q3) q2) q1) q0) hn hst (gsLen1 (gsLen1 (gsLen1 (gsLen1 (fun _ _ _ h => gsLen0 h)))))
theorem g_l4 {a b c d : Expr} {ga gb gc gd : TF} {js : List Nat} {k : Nat} (hcalm : X.calm = true) (ha : PG X a (tG X.K cl js ga)) (hb : PG X b (tG X.K cl js gb)) (hc : PG X c (tG X.K cl js gc)) (hd : PG X d (tG X.K cl js gd)) (hn : (assignEach [a, b, c, d] X.env).length = 4 := by kernel_rfl) (hst : (assignEach [a, b, c, d] X.env).findIdx? (·.1) = none := by kernel_rfl) (q0 : (assignEach [a, b, c, d] X.env).map (·.2) = assign a X.env :: (assignEach [b, c, d] X.env).map (·.2) := by kernel_rfl) (q1 : (assignEach [b, c, d] X.env).map (·.2) = assign b X.env :: (assignEach [c, d] X.env).map (·.2) := by kernel_rfl) (q2 : (assignEach [c, d] X.env).map (·.2) = assign c X.env :: (assignEach [d] X.env).map (·.2) := by kernel_rfl) (q3 : (assignEach [d] X.env).map (·.2) = assign d X.env :: (assignEach [] X.env).map (·.2) := by kernel_rfl) :
    PG X (.Tuple [a, b, c, d] k pos) (tG X.K cl js (gTl (gsCons ga (gsCons gb (gsCons gc (gsCons gd gsNil)))))) :=
  g_unl hcalm (gs_cons ha (gs_cons hb (gs_cons hc (gs_cons hd gs_nil q3) q2) q1) q0) hn hst (gsLen1 (gsLen1 (gsLen1 (gsLen1 (fun _ _ _ h => gsLen0 h)))))
theorem g_t5 {a b c d e : Expr} {ga gb gc gd ge : TF} {js : List Nat} {k : Nat} (hcalm : X.calm = true) (ha : PG X a (tG X.K cl js ga)) (hb : PG X b (tG X.K cl js gb)) (hc : PG X c (tG X.K cl js gc)) (hd : PG X d (tG X.K cl js gd)) (he : PG X e (tG X.K cl js ge)) (hn : (assignEach [a, b, c, d, e] X.env).length = 5 := by kernel_rfl) (hst : (assignEach [a, b, c, d, e] X.env).findIdx? (·.1) = none := by kernel_rfl) (q0 : (assignEach [a, b, c, d, e] X.env).map (·.2) = assign a X.env :: (assignEach [b, c, d, e] X.env).map (·.2) := by kernel_rfl) (q1 : (assignEach [b, c, d, e] X.env).map (·.2) = assign b X.env :: (assignEach [c, d, e] X.env).map (·.2) := by kernel_rfl) (q2 : (assignEach [c, d, e] X.env).map (·.2) = assign c X.env :: (assignEach [d, e] X.env).map (·.2) := by kernel_rfl) (q3 : (assignEach [d, e] X.env).map (·.2) = assign d X.env :: (assignEach [e] X.env).map (·.2) := by kernel_rfl) (q4 : (assignEach [e] X.env).map (·.2) = assign e X.env :: (assignEach [] X.env).map (·.2) := by kernel_rfl) :
    PG X (.Tuple [a, b, c, d, e] k pos) (tG X.K cl js (gTp (gsCons ga (gsCons gb (gsCons gc (gsCons gd (gsCons ge gsNil))))))) :=
  g_tup hcalm (gs_cons ha (gs_cons hb (gs_cons hc (gs_cons hd (gs_cons he gs_nil q4) q3) q2) q1) q0) hn hst (gsLen1 (gsLen1 (gsLen1 (gsLen1 (gsLen1 (fun _ _ _ h => gsLen0 h))))))
theorem g_l5 {a b c d e : Expr} {ga gb gc gd ge : TF} {js : List Nat} {k : Nat} (hcalm : X.calm = true) (ha : PG X a (tG X.K cl js ga)) (hb : PG X b (tG X.K cl js gb)) (hc : PG X c (tG X.K cl js gc)) (hd : PG X d (tG X.K cl js gd)) (he : PG X e (tG X.K cl js ge)) (hn : (assignEach [a, b, c, d, e] X.env).length = 5 := by kernel_rfl) (hst : (assignEach [a, b, c, d, e] X.env).findIdx? (·.1) = none := by kernel_rfl) (q0 : (assignEach [a, b, c, d, e] X.env).map (·.2) = assign a X.env :: (assignEach [b, c, d, e] X.env).map (·.2) := by kernel_rfl) (q1 : (assignEach [b, c, d, e] X.env).map (·.2) = assign b X.env :: (assignEach [c, d, e] X.env).map (·.2) := by kernel_rfl) (q2 : (assignEach [c, d, e] X.env).map (·.2) = assign c X.env :: (assignEach [d, e] X.env).map (·.2) := by kernel_rfl) (q3 : (assignEach [d, e] X.env).map (·.2) = assign d X.env :: (assignEach [e] X.env).map (·.2) := by kernel_rfl) (q4 : (assignEach [e] X.env).map (·.2) = assign e X.env :: (assignEach [] X.env).map (·.2) := by kernel_rfl) :
    PG X (.Tuple [a, b, c, d, e] k pos) (tG X.K cl js (gTl (gsCons ga (gsCons gb (gsCons gc (gsCons gd (gsCons ge gsNil))))))) :=
  g_unl hcalm (gs_cons ha (gs_cons hb (gs_cons hc (gs_cons hd (gs_cons he gs_nil q4) q3) q2) q1) q0) hn hst (gsLen1 (gsLen1 (gsLen1 (gsLen1 (gsLen1 (fun _ _ _ h => gsLen0 h))))))
theorem g_t6 {a b c d e f : Expr} {ga gb gc gd ge gf : TF} {js : List Nat} {k : Nat} (hcalm : X.calm = true) (ha : PG X a (tG X.K cl js ga)) (hb : PG X b (tG X.K cl js gb)) (hc : PG X c (tG X.K cl js gc)) (hd : PG X d (tG X.K cl js gd)) (he : PG X e (tG X.K cl js ge)) (hf : PG X f (tG X.K cl js gf)) (hn : (assignEach [a, b, c, d, e, f] X.env).length = 6 := by kernel_rfl) (hst : (assignEach [a, b, c, d, e, f] X.env).findIdx? (·.1) = none := by kernel_rfl) (q0 : (assignEach [a, b, c, d, e, f] X.env).map (·.2) = assign a X.env :: (assignEach [b, c, d, e, f] X.env).map (·.2) := by kernel_rfl) (q1 : (assignEach [b, c, d, e, f] X.env).map (·.2) = assign b X.env :: (assignEach [c, d, e, f] X.env).map (·.2) := by kernel_rfl) (q2 : (assignEach [c, d, e, f] X.env).map (·.2) = assign c X.env :: (assignEach [d, e, f] X.env).map (·.2) := by kernel_rfl) (q3 : (assignEach [d, e, f] X.env).map (·.2) = assign d X.env :: (assignEach [e, f] X.env).map (·.2) := by kernel_rfl) (q4 : (assignEach [e, f] X.env).map (·.2) = assign e X.env :: (assignEach [f] X.env).map (·.2) := by kernel_rfl) (q5 : (assignEach [f] X.env).map (·.2) = assign f X.env :: (assignEach [] X.env).map (·.2) := by kernel_rfl) :
    PG X (.Tuple [a, b, c, d, e, f] k pos) (tG X.K cl js (gTp (gsCons ga (gsCons gb (gsCons gc (gsCons gd (gsCons ge (gsCons gf gsNil)))))))) :=
  g_tup hcalm (gs_cons ha (gs_cons hb (gs_cons hc (gs_cons hd (gs_cons he (gs_cons hf gs_nil q5) q4) q3) q2) q1) q0) hn hst (gsLen1 (gsLen1 (gsLen1 (gsLen1 (gsLen1 (gsLen1 (fun _ _ _ h => gsLen0 h)))))))
theorem g_l6 {a b c d e f : Expr} {ga gb gc gd ge gf : TF} {js : List Nat} {k : Nat} (hcalm : X.calm = true) (ha : PG X a (tG X.K cl js ga)) (hb : PG X b (tG X.K cl js gb)) (hc : PG X c (tG X.K cl js gc)) (hd : PG X d (tG X.K cl js gd)) (he : PG X e (tG X.K cl js ge)) (hf : PG X f (tG X.K cl js gf)) (hn : (assignEach [a, b, c, d, e, f] X.env).length = 6 := by kernel_rfl) (hst : (assignEach [a, b, c, d, e, f] X.env).findIdx? (·.1) = none := by kernel_rfl) (q0 : (assignEach [a, b, c, d, e, f] X.env).map (·.2) = assign a X.env :: (assignEach [b, c, d, e, f] X.env).map (·.2) := by kernel_rfl) (q1 : (assignEach [b, c, d, e, f] X.env).map (·.2) = assign b X.env :: (assignEach [c, d, e, f] X.env).map (·.2) := by kernel_rfl) (q2 : (assignEach [c, d, e, f] X.env).map (·.2) = assign c X.env :: (assignEach [d, e, f] X.env).map (·.2) := by kernel_rfl) (q3 : (assignEach [d, e, f] X.env).map (·.2) = assign d X.env :: (assignEach [e, f] X.env).map (·.2) := by kernel_rfl) (q4 : (assignEach [e, f] X.env).map (·.2) = assign e X.env :: (assignEach [f] X.env).map (·.2) := by kernel_rfl) (q5 : (assignEach [f] X.env).map (·.2) = assign f X.env :: (assignEach [] X.env).map (·.2) := by kernel_rfl) :
    PG X (.Tuple [a, b, c, d, e, f] k pos) (tG X.K cl js (gTl (gsCons ga (gsCons gb (gsCons gc (gsCons gd (gsCons ge (gsCons gf gsNil)))))))) :=
  g_unl hcalm (gs_cons ha (gs_cons hb (gs_cons hc (gs_cons hd (gs_cons he (gs_cons hf gs_nil q5) q4) q3) q2) q1) q0) hn hst (gsLen1 (gsLen1 (gsLen1 (gsLen1 (gsLen1 (gsLen1 (fun _ _ _ h => gsLen0 h)))))))
theorem g_l7 {a b c d e f h : Expr} {ga gb gc gd ge gf gh : TF} {js : List Nat} {k : Nat} (hcalm : X.calm = true) (ha : PG X a (tG X.K cl js ga)) (hb : PG X b (tG X.K cl js gb)) (hc : PG X c (tG X.K cl js gc)) (hd : PG X d (tG X.K cl js gd)) (he : PG X e (tG X.K cl js ge)) (hf : PG X f (tG X.K cl js gf)) (hh : PG X h (tG X.K cl js gh)) (hn : (assignEach [a, b, c, d, e, f, h] X.env).length = 7 := by kernel_rfl) (hst : (assignEach [a, b, c, d, e, f, h] X.env).findIdx? (·.1) = none := by kernel_rfl) (q0 : (assignEach [a, b, c, d, e, f, h] X.env).map (·.2) = assign a X.env :: (assignEach [b, c, d, e, f, h] X.env).map (·.2) := by kernel_rfl) (q1 : (assignEach [b, c, d, e, f, h] X.env).map (·.2) = assign b X.env :: (assignEach [c, d, e, f, h] X.env).map (·.2) := by kernel_rfl) (q2 : (assignEach [c, d, e, f, h] X.env).map (·.2) = assign c X.env :: (assignEach [d, e, f, h] X.env).map (·.2) := by kernel_rfl) (q3 : (assignEach [d, e, f, h] X.env).map (·.2) = assign d X.env :: (assignEach [e, f, h] X.env).map (·.2) := by kernel_rfl) (q4 : (assignEach [e, f, h] X.env).map (·.2) = assign e X.env :: (assignEach [f, h] X.env).map (·.2) := by kernel_rfl) (q5 : (assignEach [f, h] X.env).map (·.2) = assign f X.env :: (assignEach [h] X.env).map (·.2) := by kernel_rfl) (q6 : (assignEach [h] X.env).map (·.2) = assign h X.env :: (assignEach [] X.env).map (·.2) := by kernel_rfl) :
    PG X (.Tuple [a, b, c, d, e, f, h] k pos) (tG X.K cl js (gTl (gsCons ga (gsCons gb (gsCons gc (gsCons gd (gsCons ge (gsCons gf (gsCons gh gsNil))))))))) :=
  g_unl hcalm (gs_cons ha (gs_cons hb (gs_cons hc (gs_cons hd (gs_cons he (gs_cons hf (gs_cons hh gs_nil q6) q5) q4) q3) q2) q1) q0) hn hst (gsLen1 (gsLen1 (gsLen1 (gsLen1 (gsLen1 (gsLen1 (gsLen1 (fun _ _ _ h => gsLen0 h))))))))
end
end Rf
namespace Rf
open PySem L2
/-! x in range(n) -/
def rInR1 : V → List V → Hp → VK → Prop := fun x vs H Q => ∃ i b : Int, x = .int i ∧ vs = [.int b] ∧ Q (.bl (Builtin.Range.rangePlace? 0 b 1 i).isSome) H
section
variable {X : Cx} {x y : Str} {p p2 pos pos2 : Pos} {e a : Expr} {te : TE} {t : TA}
def tInR1 (te : TE) (t : TA) : TE := fun σ H Q => te σ H fun x H1 => t σ H1 fun vs H2 => rInR1 x vs H2 Q
theorem pc_inR1 (hgy : Gl X y) (hmy : X.mg y = none) (hvy : bootBuiltins y = some (.type "range")) (he : PE X e te) (ha : PA X [a] t)
    (hny : y ≠ "__name__") (hdy : (y == ("__debug__" : Str)) = false)
    (hs : starEach [a] X.env = (false, eval a X.env) :: starEach [] X.env) (hpl : (backTo pos2 (starEach [] X.env)).any (·.1) = false) :
    PC X .In e (.Call (.Name y p2) [a] [] pos2) (tInR1 te t) := by
  refine ⟨fun pins s σ H Q I h => ?_⟩
  refine thn (he.run pins s σ H _ I h) fun v s1 ⟨x, H1, I1, rx, q1⟩ => ?_
  refine wpAny_Call_Name_kw (ld_blt I1 hgy hmy hvy ?_ hny hdy)
  refine PyProof.Rows.callWith_type1 (thn (ha.run pos2 pins s1 σ H1 _ I1 q1) fun us s2 ⟨vs, H2, I2, r2, q2⟩ => ?_) hs hpl
  obtain ⟨i, b', rfl, rfl, q⟩ := q2
  obtain ⟨k, rfl⟩ := rx
  cases r2 with
  | cons r rr =>
  cases rr
  obtain ⟨t1, rfl⟩ := r
  refine call_range_1 ?_
  have I3 : Inv X pins σ H2 { s2 with heap := s2.heap.push { cls := .type "range", data := .fields #[.int 0 s2.toks, .int b' t1, .int 1 (s2.toks + 1)] }, toks := s2.toks + 1 + 1 } := I2.kept (t' := s2.toks + 1 + 1) fun b o e => Heap.get?_push_of_some _ e
  have ho : (s2.heap.push { cls := .type "range", data := .fields #[.int 0 s2.toks, .int b' t1, .int 1 (s2.toks + 1)] }).get? s2.heap.objs.size = some { cls := .type "range", data := .fields #[.int 0 s2.toks, .int b' t1, .int 1 (s2.toks + 1)] } := Heap.get?_push_size _ rfl
  show wpAny _ _ (do return Value.bool (← contains (Value.ref s2.heap.objs.size) (Value.int i k))) _ _ _
  exact wpAny_bind (wpAny_contains_slot (T := "range") ⟨_, ho, rfl⟩ F.slot_range_contains (call_meets F.slot_range_contains ⟨_, ho, rfl⟩ F.entry_range_contains (F.args_range_contains_2 _ _) (q_inR _ 0 b' 1 i _ t1 _ k)
    ⟨ho, wpAny_truthy_bool (wpAny_pure ⟨.bl _, H2, I3, rfl, q⟩)⟩))
end
/-- x in range(n) -/
def inR1 (x : D) (ds : List D) : Option D := match x, ds with
  | .int i, [.int b] => some (.bl (decide (0 ≤ i ∧ i < b)))
  | _, _ => none
@[simp] theorem inR1_1 (i b : Int) : inR1 (.int i) [.int b] = some (.bl (decide (0 ≤ i ∧ i < b))) := rfl
def dInR1 (f : M → R D) (ga : M → R (List D)) : M → R D := fun m => (f m).bind fun x m => (ga m).bind fun ds m => ofO (inR1 x ds) m
@[simp] theorem dInR1_ap (f : M → R D) (ga : M → R (List D)) (m : M) : dInR1 f ga m = ((f m).bind fun x m => (ga m).bind fun ds m => ofO (inR1 x ds) m) := rfl
section
variable {X : Cx} {cl : Nat → Addr} {xc : XC} {W : WX} {y : Str} {p p2 pos pos2 : Pos} {e a : Expr} {f : M → R D} {ga : M → R (List D)}
theorem inR1_of {σ : St} {H : Hp} {Q : VK} (q : tE X.K cl xc W (dInR1 f ga) σ H Q) : tInR1 (tE X.K cl xc W f) (tA X.K cl xc W ga) σ H Q :=
  tE_bind q fun φ fd fv F H1 m lv x d rl q => by
    refine ⟨_, _, _, F, m, lv, rl, ?_⟩
    cases eg : ga m with
    | no => simp only [eg, R.bind] at q
    | ex c n m1 => simp only [eg, R.bind] at q ⊢; exact fun F' H' dx r' => q F' H' dx r'.pop
    | ok ds m1 =>
      simp only [eg, R.bind] at q ⊢
      intro F2 H2 vs hl r2
      unfold ofO at q
      cases eo : inR1 d ds with
      | none => simp only [eo] at q
      | some z =>
        simp only [eo] at q
        obtain ⟨fx2, rx2⟩ := r2.untops.wf.toTop.topRep
        obtain ⟨fp, g1, _⟩ := r2.wf.toTops.fp
        unfold inR1 at eo
        split at eo
        · rename_i i b
          cases eo
          have ex : x = .int i := rx2.1
          subst ex
          match vs, hl with
          | [v1], _ =>
            obtain ⟨e1, _⟩ := g1 (.inl 0)
            have e1 : v1 = _ := e1
            subst e1
            refine ⟨i, b, rfl, rfl, ?_⟩
            rw [place1]
            exact q F2 H2 _ (r2.untops.pop.push (r2.untops.pop.wf.dup0 (Scal.rep rfl)))
        · cases eo
theorem d_inR1 (g_range : X.mg "range" = none) (he : PEd X cl xc W e f) (ha : PAd X cl xc W [a] ga) (hm : behindInMarks .In (.Call (.Name "range" p2) [a] [] pos2) = false := by kernel_rfl) (hg : X.env.kindOf "range" = some .globalImplicit := by kernel_rfl)
    (hs : starEach [a] X.env = (false, eval a X.env) :: starEach [] X.env := by kernel_rfl) (hpl : (backTo pos2 (starEach [] X.env)).any (·.1) = false := by kernel_rfl) : PEd X cl xc W (.Compare e [.In] [.Call (.Name "range" p2) [a] [] pos2] pos) (dInR1 f ga) :=
  pe_imp (pe_cmp (pc_inR1 hg g_range bo_range.v he ha bo_range.n bo_range.d hs hpl) hm) fun σ H Q q => inR1_of q
theorem t_inR1 (g_range : X.mg "range" = none) (he : PEd X cl xc W e f) (ha : PAd X cl xc W [a] ga) (hm : behindInMarks .In (.Call (.Name "range" p2) [a] [] pos2) = false := by kernel_rfl) (hg : X.env.kindOf "range" = some .globalImplicit := by kernel_rfl)
    (hs : starEach [a] X.env = (false, eval a X.env) :: starEach [] X.env := by kernel_rfl) (hpl : (backTo pos2 (starEach [] X.env)).any (·.1) = false := by kernel_rfl) : PTd X cl xc W (.Compare e [.In] [.Call (.Name "range" p2) [a] [] pos2] pos) (dT (dInR1 f ga)) :=
  pt_imp (pt_cmp (pc_inR1 hg g_range bo_range.v he ha bo_range.n bo_range.d hs hpl) hm) fun σ H Q q => inR1_of (tET q)
end
end Rf
namespace Rf
open PySem L2
/-! max(xs, default=None) of a list of ints -/
def rMaxN (K : PySem.W.Frag) : List V → List V → Hp → VK → Prop := fun vs zs H Q => ∃ (a : Addr) (ns : List Int), vs = [V.ref a] ∧ zs = [V.non] ∧ SqL K H a (ns.map V.int) ∧ (ns = [] → Q .non H) ∧ ∀ n ms, ns = n :: ms → Q (.int (ms.foldl max n)) H
theorem depth_ints (ns : List Int) : PyData.depthAll (ns.map .int) ≤ 1 := by
  induction ns with
  | nil => simp [PyData.depthAll]
  | cons n ns ih =>
    rw [List.map_cons]
    unfold PyData.depthAll
    have : PyData.depth (.int n) ≤ 1 := by simp [PyData.depth]
    omega
theorem alike_ints (ns : List Int) : PySem.W.AlikeAll (ns.map PyData.int) := by
  refine ⟨fun x hx y hy => ?_, fun x hx => ?_⟩
  · obtain ⟨i, _, rfl⟩ := List.mem_map.mp hx
    obtain ⟨j, _, rfl⟩ := List.mem_map.mp hy
    rfl
  · obtain ⟨i, _, rfl⟩ := List.mem_map.mp hx
    intro h; cases h
theorem cr_maxN {X : Cx} (hc : X.calm = true) (hu : X.A.units + 64 < cLine) : CallRK X (.builtin "max") [Str.ofString "default"] (rMaxN X.K) := by
  intro pins s σ H vs zs us ws Q I r rz h
  obtain ⟨a, ns, rfl, rfl, hs, q0, q1⟩ := h
  obtain ⟨its, rv, hl, _⟩ := I.list hs
  obtain rfl := Vals.ref1 r
  obtain ⟨w1, rfl, e1⟩ := vals1 rz
  obtain rfl : w1 = Value.none := e1
  have hd := depth_ints ns
  refine PySem.W.max_list_default (I.ok.hd hc) hl.isList (PyProof.Rows.IntsAre.reads s.heap rv.ints) (alike_ints ns) (by omega) (fun e h' tk hk => ?_) fun y ys i v h' tk bs e hi hr hk => ?_
  · have : ns = [] := List.map_eq_nil_iff.mp e
    exact ⟨.non, H, I.kept hk, rfl, q0 this⟩
  · cases ns with
    | nil => cases e
    | cons n ms =>
      rw [List.map_cons] at e
      injection e with e1 e2
      subst e1 e2
      rw [PySem.W.maxD_ints] at hr
      cases hr with
      | int _ t => exact ⟨.int _, H, I.kept hk, ⟨t, rfl⟩, q1 n ms rfl⟩
def maxN : List Int → D
  | [] => .non
  | n :: ms => .int (maxI n ms)
theorem maxI_fold (n : Int) (ms : List Int) : ms.foldl max n = maxI n ms := by
  induction ms generalizing n with
  | nil => rfl
  | cons m ms ih =>
    rw [List.foldl_cons, ih]
    show maxI (max n m) ms = maxI (if m > n then m else n) ms
    congr 1
    omega
def bMaxN : List D → Option D
  | [.obj _ .lst ds] => (intsD ds).map maxN
  | _ => none
@[simp] theorem bMaxN_l (o : Ow) (ds : List D) : bMaxN [.obj o .lst ds] = (intsD ds).map maxN := rfl
section
variable {X : Cx} {cl : Nat → Addr} {xc : XC} {W : WX} {x : Str} {p pos kpos cpos : Pos} {a : Expr} {ga : M → R (List D)} {j : Nat}
theorem b_maxN {K : PySem.W.Frag} : CaP K cl (fun vs H Q => rMaxN K vs [.non] H Q) bMaxN := by
  intro F H ds vs z Q ex e h
  unfold bMaxN at e
  split at e
  · obtain ⟨v, fx, rfl, r⟩ := each1 h
    rename_i o ds
    cases ei : intsD ds with
    | none => rw [ei] at e; cases e
    | some ns =>
      rw [ei] at e
      cases e
      obtain ⟨a, us, rfl, k, ea, _⟩ := r.opn ex
      rw [ints_some ei] at ea
      have := ea.intD
      subst this
      refine ⟨by cases ns <;> rfl, fun q => ⟨a, ns, rfl, rfl, k, fun e => ?_, fun n ms e => ?_⟩⟩
      · subst e; exact q _ rfl
      · subst e; rw [maxI_fold]; exact q _ rfl
  · cases e
theorem d_maxN (hc : X.calm = true) (hu : X.A.units + 64 < cLine) (hm : X.mg "max" = none) (ha : PAd X cl xc W [a] ga) (hg : X.env.kindOf "max" = some .globalImplicit := by kernel_rfl)
    (he : backTo pos (starEach [a] X.env) = (false, eval a X.env) :: backTo pos (starEach [] X.env) := by kernel_rfl) (hpl : (backTo pos (starEach [a] X.env)).any (·.1) = false := by kernel_rfl)
    (hall : (backToKw pos (keywordEach [⟨some "default", .Constant .none j cpos, kpos⟩] X.env)).all (·.1.isSome) = true := by kernel_rfl) (hnone : (backToKw pos (keywordEach [⟨some "default", .Constant .none j cpos, kpos⟩] X.env)).any (·.1.isNone) = false := by kernel_rfl) (hks : (backToKw pos (keywordEach [⟨some "default", .Constant .none j cpos, kpos⟩] X.env)).filterMap (·.1) = [Str.ofString "default"] := by kernel_rfl) :
    PEd X cl xc W (.Call (.Name "max" p) [a] [⟨some "default", .Constant .none j cpos, kpos⟩] pos) (dB bMaxN ga) :=
  pe_imp (pe_callBK (cr_maxN hc hu) hg hm bo_max.v ha (pk_cons pe_non pk_nil) bo_max.n bo_max.d he hpl hall hnone hks) fun σ H Q q => tA_bind q fun φ fd fv F H1 m lv vs ds hl r q => by
    unfold ofO at q
    cases eo : bMaxN ds with
    | none => simp only [eo] at q
    | some z =>
      simp only [eo] at q
      exact b_maxN.cas _ _ F H1 ds z vs Q eo hl r.wf.toTops fun F' H' v w => q F' H' v (r.untops.push w)
end
end Rf
namespace Rf
open PySem L2
/-! text.split(b), b a constant -/
def oSplit (b : Str) (x : D) : Option D := match x with
  | .str a => if (b.length == 0) = false ∧ a.length + 2 ≤ sizeLine then some (.obj .own .lst ((Txt.split a b).map D.str)) else none
  | _ => none
@[simp] theorem oSplit_s (a b : Str) : oSplit b (.str a) = if (b.length == 0) = false ∧ a.length + 2 ≤ sizeLine then some (.obj .own .lst ((Txt.split a b).map D.str)) else none := rfl
def dSplit (b : Str) (f : M → R D) : M → R D := fun m => (f m).bind fun x m => ofO (oSplit b x) m
@[simp] theorem dSplit_ap (b : Str) (f : M → R D) (m : M) : dSplit b f m = ((f m).bind fun x m => ofO (oSplit b x) m) := rfl
section
variable {K : PySem.W.Frag} {cl : Nat → Addr}
theorem reps_strs {F H : Hp} : ∀ ys : List Str, Reps K cl F H (ys.map D.str) (ys.map V.str) []
  | [] => ⟨rfl, rfl⟩
  | y :: ys => Reps.cons (f1 := []) (f2 := []) (Scal.rep rfl) (reps_strs ys)
end
section
variable {X : Cx} {cl : Nat → Addr} {xc : XC} {W : WX} {apos p2 pos : Pos} {o : Expr} {f : M → R D} {b : Str} {j : Nat}
theorem d_split (he : PEd X cl xc W o f) (hs : starEach [.Constant (.str b) j p2] X.env = [(false, eval (.Constant (.str b) j p2) X.env)] := by kernel_rfl) (hbase : attributeBase o "split" X.env (eval o X.env) = eval o X.env := by kernel_rfl) (hline : (apos.endLine == pos.line) = true := by kernel_rfl) :
    PEd X cl xc W (.Call (.Attribute o "split" apos) [.Constant (.str b) j p2] [] pos) (dSplit b f) :=
  pe_imp (pe_split he pe_str hs hbase hline) fun σ H Q h => tE_bind h fun φ fd fv F H1 m lv x d r1 q => by
    unfold ofO at q
    cases e : oSplit b d with
    | none => simp only [e] at q
    | some z =>
      simp only [e] at q
      unfold oSplit at e
      split at e
      · rename_i a
        split at e
        · rename_i hk
          cases e
          obtain ⟨fx, rx⟩ := r1.wf.toTop.topRep
          have ex : x = .str a := rx.1
          subst ex
          refine ⟨⟨a, rfl⟩, ?_⟩
          show ∃ a' b', V.str a = .str a' ∧ [V.str b] = [.str b'] ∧ _
          refine ⟨a, b, rfl, rfl, hk.1, hk.2, fun p hp => ?_⟩
          exact q _ _ _ (r1.pop.push (r1.pop.wf.newSh (reps_strs _) hp rfl))
        · cases e
      · cases e
end
end Rf
namespace Rf
open PySem L2
/-! x is True, x is not False ..: two truth values -/
def oIsB : D → D → Option D
  | .bl c, .bl d => some (.bl (c == d))
  | _, _ => none
def oIsntB : D → D → Option D
  | .bl c, .bl d => some (.bl (c != d))
  | _, _ => none
@[simp] theorem oIsB_b (c d : Bool) : oIsB (.bl c) (.bl d) = some (.bl (c == d)) := rfl
@[simp] theorem oIsntB_b (c d : Bool) : oIsntB (.bl c) (.bl d) = some (.bl (c != d)) := rfl
def rIsB : R2 := fun x y H Q => ∃ c d, x = V.bl c ∧ y = V.bl d ∧ Q (.bl (c == d)) H
def rIsntB : R2 := fun x y H Q => ∃ c d, x = V.bl c ∧ y = V.bl d ∧ Q (.bl (c != d)) H
theorem op_isB {X : Cx} : OpR X (compareOp .Is) rIsB := by
  intro pins s σ H x y v u Q I rx ry h
  obtain ⟨c, d, rfl, rfl, q⟩ := h
  cases rx
  cases ry
  exact PyProof.Rows.is_bool ⟨.bl _, H, I, rfl, q⟩
theorem op_isntB {X : Cx} : OpR X (compareOp .IsNot) rIsntB := by
  intro pins s σ H x y v u Q I rx ry h
  obtain ⟨c, d, rfl, rfl, q⟩ := h
  cases rx
  cases ry
  exact PyProof.Rows.isnot_bool ⟨.bl _, H, I, rfl, q⟩
theorem p_isB : OpP rIsB oIsB := by
  intro x y z vx vy H Q e hx hy
  unfold oIsB at e
  split at e
  · cases e; cases hx; cases hy
    exact ⟨rfl, fun q => ⟨_, _, rfl, rfl, q _ rfl⟩⟩
  · cases e
theorem p_isntB : OpP rIsntB oIsntB := by
  intro x y z vx vy H Q e hx hy
  unfold oIsntB at e
  split at e
  · cases e; cases hx; cases hy
    exact ⟨rfl, fun q => ⟨_, _, rfl, rfl, q _ rfl⟩⟩
  · cases e
theorem sc_isB {x y z : D} (h : oIsB x y = some z) : isSc x = true ∧ isSc y = true := by unfold oIsB at h; split at h <;> first | exact ⟨rfl, rfl⟩ | cases h
theorem sc_isntB {x y z : D} (h : oIsntB x y = some z) : isSc x = true ∧ isSc y = true := by unfold oIsntB at h; split at h <;> first | exact ⟨rfl, rfl⟩ | cases h
theorem c_isB {X : Cx} : CmpR X .Is oIsB := ⟨⟨_, op_isB, p_isB⟩, fun _ _ _ h => sc_isB h⟩
theorem c_isntB {X : Cx} : CmpR X .IsNot oIsntB := ⟨⟨_, op_isntB, p_isntB⟩, fun _ _ _ h => sc_isntB h⟩
end Rf
namespace Rf
open PySem L2 PySem.Spec PyProof.Rows
/-! several except clauses, with names or without -/
abbrev ClT := Value × Option Nat × (Addr → Value → Option Addr → TS)
def outS (i : Nat) (D : Ends) : Ends := { nx := fun z h => D.nx (z.set i none) h, rt := D.rt, bk := fun z h => D.bk (z.set i none) h, ct := fun z h => D.ct (z.set i none) h }
def askC (io : Option Nat) (ts : Addr → Value → Option Addr → TS) (a : Addr) (c : Value) (d : Option Addr) (D : Ends) (σ : L2.St) (H : Hp) : Prop := match io with
  | none => ts a c d D σ H
  | some i => ts a c d (outS i D) (σ.set i (some (.ref a))) H
def wCl (K : PySem.W.Frag) (Wo : WX) (D : Ends) : List ClT → WX
  | [], k, d, z, h => Wo k d z h
  | p :: r, k, d, z, h => ∃ b, PySem.W.exmOne K k p.1 = some b ∧ (b = true → ∀ a, h a = none → askC p.2.1 p.2.2 a k d D z h) ∧ (b = false → wCl K Wo D r k d z h)
structure SuOk (X : Cx) (s : List Stmt) (ts : Addr → Value → Option Addr → TS) : Prop where
  ok : ∀ (a : Addr) (oe : Obj) (c : Value) (d : Option Addr) (pn : List (Addr × Obj)), Zc c d oe → (∃ vs, oe.data = .fields vs) → PSs (X.suite a ((a, oe) :: pn)) s (ts a c d)
inductive ClOk (X : Cx) : List ExceptHandler → List ClT → Prop
  | e : ClOk X [] []
  | u {x : Str} {c : Value} {ts : Addr → Value → Option Addr → TS} {t : Stmt} {su : List Stmt} {p1 p2 : Pos} {es : List ExceptHandler} {l : List ClT} (n : Names X x c) (s : SuOk X (t :: su) ts) (r : ClOk X es l) :
      ClOk X (.ExceptHandler (some (.Name x p1)) none (t :: su) p2 :: es) ((c, none, ts) :: l)
  | n {x y : Str} {i : Nat} {c : Value} {ts : Addr → Value → Option Addr → TS} {t : Stmt} {su : List Stmt} {p1 p2 : Pos} {es : List ExceptHandler} {l : List ClT} (hi : X.N[i]? = some y) (hl : X.env.kindOf y = some .local) (n : Names X x c) (s : SuOk X (t :: su) ts) (r : ClOk X es l) :
      ClOk X (.ExceptHandler (some (.Name x p1)) (some y) (t :: su) p2 :: es) ((c, some i, ts) :: l)
section
variable {X : Cx} {body : List Stmt} {e0 : ExceptHandler} {es : List ExceptHandler} {l : List ClT} {pos : Pos} {tb : WX → TS} {Wo : WX}
theorem ps_tryN (hs : X.stack = X.env :: X.outer) (hf : X.env.frame = some X.env.locals) (nd : X.N.Nodup) (tk : Takes X Wo)
    (hb : ∀ (W : WX) (pn : List (Addr × Obj)) (xe : Value → Shared → Prop), Takes (X.tr pn xe) W → PassesOwn (model X.prog X.w) X.A X.env xe → PSs (X.tr pn xe) body (tb W))
    (hh : ClOk X (e0 :: es) l) : PS X (.Try body (e0 :: es) [] [] pos) (fun D σ H => tb (wCl X.K Wo D l) D σ H) := by
  constructor
  intro pins s0 σ H D I0 h
  have wok := I0.ok
  have frm : X.A.frames = some (X.env :: X.outer) := wok.frames.trans (congrArg some hs)
  apply wpAny_Try_except
  have B := (hb (wCl X.K Wo D l) (X.pn ++ pins) (fun e s₁ => wpAny (model X.prog X.w) X.A (noteFrame e X.env) (fun _ s₂ => wpAny (model X.prog X.w) X.A (setFlight e none) (fun _ s₃ => wpAny (model X.prog X.w) X.A (handleBy e X.env (e0 :: es)) (SP X pins D) X.xe s₃) X.xe s₂) X.xe s₁) ?_ PassesOwn.looking).run [] s0 σ H D (I0.toTry _) h
  · refine wpAny_mono B ?_ fun _ _ z => z
    intro fl s1 q
    cases fl with
    | next => obtain ⟨z, h1, J, q⟩ := q; exact wpAny_execs_nil ⟨z, h1, J.ofTry wok, q⟩
    | brk => obtain ⟨z, h1, J, q⟩ := q; exact ⟨z, h1, J.ofTry wok, q⟩
    | cont => obtain ⟨z, h1, J, q⟩ := q; exact ⟨z, h1, J.ofTry wok, q⟩
    | ret u => obtain ⟨v, z, h1, J, r, q⟩ := q; exact ⟨v, z, h1, J.ofTry wok, r, q⟩
  intro u s1 caught
  obtain ⟨a, B, sI, pins', z, h1, c, d, rfl, Jt, nb, up, sky, na, os, ag, w⟩ := caught
  have Jo : Inv X pins z h1 sI := Jt.ofTry wok
  rw [hs] at sky
  show wpAny (model X.prog X.w) X.A (noteFrame (.ref a) X.env) _ _ _
  apply Sky.land Zc.steady frm hf sky
  intro h3 fly up3
  have Ja : Inv X pins z h1 { s1 with heap := h3 } := Jo.landed nb fly.1 (up.trans up3) os ag
  obtain ⟨oe, vs, ge, ze, de⟩ := fly.there
  have afar : a ∉ frs (X.env :: X.outer) := fun hm => by
    obtain ⟨_, o2, e2, no⟩ := fly.2.2.1.mem hm
    rw [ge] at e2
    cases e2
    exact no _ de
  have aL : a ≠ X.env.locals := fun y => afar (List.mem_filterMap.mpr ⟨X.env, by simp, by rw [hf, y]⟩)
  have aF : a ∉ X.fs := fun hm => by
    obtain ⟨e2, m2, q⟩ := List.mem_filterMap.mp hm
    exact afar (List.mem_filterMap.mpr ⟨e2, by simp [m2], q⟩)
  have Su := Ja.suite ge de na aL aF
  suffices go : ∀ {fs : List ExceptHandler} {k : List ClT}, ClOk X fs k → wCl X.K Wo D k c d z h1 → wpAny (model X.prog X.w) X.A (handleBy (.ref a) X.env fs) (SP X pins D) X.xe { s1 with heap := h3 } from go hh w
  have look : PySem.W.Looks (model X.prog X.w) h3 (typeOf (.ref a)) c := fun A Q E s k q => wpAny_typeOf_ref (k _ _ ge) (by rw [ze.1]; exact q)
  have name : ∀ {x : Str} {C : Value} {np : Pos} {Q E : Value → Shared → Prop}, Names X x C → Q C { s1 with heap := h3 } → wpAny (model X.prog X.w) (X.A.mark (some (.ref a))) (eval (.Name x np) X.env) Q E { s1 with heap := h3 } := by
    intro x C np Q E hc q
    obtain ⟨g1, g2, g3 | ⟨g3, g4, g5⟩⟩ := hc
    · exact ld_glob (X := X.suite a ((a, oe) :: (X.pn ++ pins))) Su g1 g3 q g2
    · exact ld_blt (X := X.suite a ((a, oe) :: (X.pn ++ pins))) Su g1 g3 g4 q g5 g2
  intro fs k hk
  induction hk with
  | e =>
    intro w
    apply wpAny_handleBy_nil
    obtain ⟨_, _, _, o2, v2, T, oT, t2, e2, _, d2, l1, _⟩ := id fly
    unfold PySem.passOn
    refine wpAny_bind (wpAny_field e2 d2 l1 ?_)
    have tn : ¬ ((Value.ref T == Value.none) = true) := by simp
    rw [if_neg tn]
    have up1 : wpAny (model X.prog X.w) X.A (setFlight (.ref a) X.env.frame) (fun _ s4 => wpAny (model X.prog X.w) X.A (throw (.ref a) : Sem Flow) (SP X pins D) X.xe s4) X.xe { s1 with heap := h3 } := by
      rw [hf]
      apply HandSPX.setFlight_upZ fly
      intro h4 held up4
      refine wpAny_throw (tk _ _ ⟨a, B, sI, pins, z, h1, c, d, rfl, Jo, nb, (up.trans up3).trans up4, .inr (.inr (by rw [hs]; exact held)), na, os, ag, w⟩)
    first
      | exact wpAny_bind (wpAny_pure (wpAny_bind up1))
      | exact wpAny_bind up1
  | u n s r ih =>
    intro w
    obtain ⟨b, eb, yes, no⟩ := w
    refine wpAny_handleBy_cons (codeAny_handlers_test ?_) (fun q => by cases q)
    refine name n ((PySem.W.exm_one (M := model X.prog X.w) Ja.kIn look eb).here ?_)
    cases b with
    | false => exact ih (no rfl)
    | true =>
      apply codeAny_handlers_suite
      apply HandSPX.lands_againZ fly
      intro h4 fl4 up4
      have Jb : Inv X pins z h1 { s1 with heap := h4 } := Jo.landed nb fl4.1 ((up.trans up3).trans up4) os ag
      obtain ⟨o4, v4, g4, z4, d4⟩ := fl4.there
      refine wpAny_mono ((s.ok a o4 c d (X.pn ++ pins) z4 ⟨_, d4⟩).run [] _ _ h1 _ (Jb.suite g4 d4 na aL aF) (yes rfl a na)) ?_ fun _ _ y => False.elim y
      intro fl s6 q
      cases fl with
      | next => obtain ⟨z6, h6, S6, q6⟩ := q; exact ⟨_, _, S6.unsuite wok, q6⟩
      | brk => obtain ⟨z6, h6, S6, q6⟩ := q; exact ⟨_, _, S6.unsuite wok, q6⟩
      | cont => obtain ⟨z6, h6, S6, q6⟩ := q; exact ⟨_, _, S6.unsuite wok, q6⟩
      | ret u => obtain ⟨v6, z6, h6, S6, r6, q6⟩ := q; exact ⟨_, _, _, S6.unsuite wok, r6, q6⟩
  | @n x y i C ts t su p1 p2 es l hi hl n s r ih =>
    intro w
    obtain ⟨b, eb, yes, no⟩ := w
    refine wpAny_handleBy_cons (codeAny_handlers_test ?_) (fun q => by cases q)
    refine name n ((PySem.W.exm_one (M := model X.prog X.w) Ja.kIn look eb).here ?_)
    cases b with
    | false => exact ih (no rfl)
    | true =>
      apply codeAny_handlers_suite_as
      apply HandSPX.lands_againZ fly
      intro h4 fl4 up4
      have Jb : Inv X pins z h1 { s1 with heap := h4 } := Jo.landed nb fl4.1 ((up.trans up3).trans up4) os ag
      obtain ⟨o4, v4, g4, z4, d4⟩ := fl4.there
      refine store_ok (X := X.suite a ((a, o4) :: (X.pn ++ pins))) (v := .ref a) (Jb.suite g4 d4 na aL aF) nd hi (.inl hl) rfl ?_ (.inr hl)
      intro s5 S5
      refine wpAny_mono ((s.ok a o4 c d (X.pn ++ pins) z4 ⟨_, d4⟩).run [] s5 _ h1 _ S5 (yes rfl a na)) ?_ fun _ _ y => False.elim y
      intro fl s6 q
      cases fl with
      | next => obtain ⟨z6, h6, S6, q6⟩ := q; exact gone_ok (S6.unsuite wok) nd hi hl fun s7 J7 => ⟨_, _, J7, q6⟩
      | brk => obtain ⟨z6, h6, S6, q6⟩ := q; exact gone_ok (S6.unsuite wok) nd hi hl fun s7 J7 => ⟨_, _, J7, q6⟩
      | cont => obtain ⟨z6, h6, S6, q6⟩ := q; exact gone_ok (S6.unsuite wok) nd hi hl fun s7 J7 => ⟨_, _, J7, q6⟩
      | ret u => obtain ⟨v6, z6, h6, S6, r6, q6⟩ := q; exact gone_ok (S6.unsuite wok) nd hi hl fun s7 J7 => ⟨_, _, _, J7, r6, q6⟩
end
end Rf
namespace Rf
open PySem L2
/-! try with several except clauses -/
structure Hd where
  nm : Option Nat
  sb : List Bool
  h : Nat → Option Int → M → R Fl
def dHds : List Hd → Nat → Option Int → M → R Fl
  | [], c, n, m => .ex c n m
  | k :: r, c, n, m => match k.sb[c]? with
    | some true => match hide k.nm m with
      | some m2 => match k.h c n m2 with
        | .ok (.rt d) m3 => .ok (.rt d) m3
        | .ok fl m3 => match hide k.nm m3 with
          | some m4 => .ok fl m4
          | none => .no
        | _ => .no
      | none => .no
    | some false => dHds r c n m
    | none => .no
def dTryN (b : M → R Fl) (hs : List Hd) : M → R Fl := fun m => match b m with
  | .ex c n m1 => dHds hs c n m1
  | r => r
inductive HdOk (X : Cx) (cl : Nat → Addr) (xc : XC) : List ExceptHandler → List Hd → Prop
  | e : HdOk X cl xc [] []
  | u {x : Str} {tb : List Bool} {h : Nat → Option Int → M → R Fl} {b0 : Stmt} {su : List Stmt} {p1 p2 : Pos} {es : List ExceptHandler} {l : List Hd} (T : XcS X.K X.mg xc tb x)
      (s : ∀ (c : Nat) (n : Option Int) (a : Addr) (oe : Obj) (d : Option Addr) (pn : List (Addr × Obj)), tb[c]? = some true → PSsd (X.suite a ((a, oe) :: pn)) cl xc W0 (b0 :: su) (h c n))
      (r : HdOk X cl xc es l) (hg : X.env.kindOf x = some .globalImplicit := by kernel_rfl) (hd : (x == ("__debug__" : Str)) = false := by kernel_rfl) : HdOk X cl xc (.ExceptHandler (some (.Name x p1)) none (b0 :: su) p2 :: es) (⟨none, tb, h⟩ :: l)
  | n {x y : Str} {i : Nat} {tb : List Bool} {h : Nat → Option Int → M → R Fl} {b0 : Stmt} {su : List Stmt} {p1 p2 : Pos} {es : List ExceptHandler} {l : List Hd} (T : XcS X.K X.mg xc tb x)
      (s : ∀ (c : Nat) (n : Option Int) (a : Addr) (oe : Obj) (d : Option Addr) (pn : List (Addr × Obj)), tb[c]? = some true → Zc (.ref (xc.cls c)) d oe → (∃ vs, oe.data = .fields vs) → (n = none → d = none) → PSs (X.suite a ((a, oe) :: pn)) (b0 :: su) (tQs X.K cl xc i a (h c n)))
      (r : HdOk X cl xc es l) (hi : X.N[i]? = some y := by kernel_rfl) (hl : X.env.kindOf y = some .local := by kernel_rfl) (hg : X.env.kindOf x = some .globalImplicit := by kernel_rfl) (hd : (x == ("__debug__" : Str)) = false := by kernel_rfl) :
      HdOk X cl xc (.ExceptHandler (some (.Name x p1)) (some y) (b0 :: su) p2 :: es) (⟨some i, tb, h⟩ :: l)
section
variable {X : Cx} {cl : Nat → Addr} {xc : XC} {W : WX} {body : List Stmt} {p : M → R Fl} {pos : Pos}
theorem hdOk_cls {es : List ExceptHandler} {l : List Hd} (h : HdOk X cl xc es l) : ∃ k : List ClT, ClOk X es k ∧ ∀ (W : WX) (Dn : Ends) (φ : Type) (fd : φ → D) (fv : φ → V) (lv : List V) (c : Nat) (n : Option Int) (m1 : M) (F' H' : Hp) (σ' : L2.St) (dx : Option Addr),
    Rel X.K cl fd fv F' H' σ' m1 lv → ExcAt xc c n dx H' → PostS X.K cl xc W fd fv lv Dn (dHds l c n m1) → wCl X.K W Dn k (.ref (xc.cls c)) dx σ' H' := by
  induction h with
  | e => exact ⟨[], .e, fun W Dn φ fd fv lv c n m1 F' H' σ' dx r hx q => q F' H' σ' dx r hx⟩
  | @u x tb h b0 su p1 p2 es l T s r hg hd ih =>
    obtain ⟨k, hk, ih⟩ := ih
    obtain ⟨C, hC, hT⟩ := T
    refine ⟨(.ref C, none, fun a cls d => fun Dn σ H => ∃ c n, cls = .ref (xc.cls c) ∧ tb[c]? = some true ∧ tS X.K cl xc W0 (h c n) Dn σ H) :: k, .u ⟨hg, hd, .inl hC⟩ ⟨fun a oe cls d pn hz hv => ⟨fun pins s' σ H Dn I ⟨c, n, e, ht, q⟩ => (s c n a oe d pn ht).run pins s' σ H Dn I q⟩⟩ hk, ?_⟩
    intro W Dn φ fd fv lv c n m1 F' H' σ' dx rl hx q
    unfold dHds at q
    simp only at q
    cases et : tb[c]? with
    | none => simp only [et] at q; exact q.elim
    | some b =>
      refine ⟨b, hT c b et, fun e a ha => ?_, fun e => ?_⟩
      · subst e
        simp only [et, hide_n] at q
        refine ⟨c, n, rfl, et, tS_post.mpr ⟨φ, fd, fv, F', m1, lv, rl, ?_⟩⟩
        cases e2 : h c n m1 with
        | no => simp only [e2] at q; exact q
        | ex c' n' m3 => simp only [e2] at q; exact q.elim
        | ok fl m3 => simp only [e2] at q; cases fl <;> exact q
      · subst e
        simp only [et] at q
        exact ih W Dn φ fd fv lv c n m1 F' H' σ' dx rl hx q
  | @n x y i tb h b0 su p1 p2 es l T s r hi hl hg hd ih =>
    obtain ⟨k, hk, ih⟩ := ih
    obtain ⟨C, hC, hT⟩ := T
    refine ⟨(.ref C, some i, fun a cls d => fun Dn σ H => ∃ c n, cls = .ref (xc.cls c) ∧ tb[c]? = some true ∧ (n = none → d = none) ∧ tQs X.K cl xc i a (h c n) Dn σ H) :: k, .n hi hl ⟨hg, hd, .inl hC⟩ ⟨fun a oe cls d pn hz hv => ⟨fun pins s' σ H Dn I ⟨c, n, e, ht, hn, q⟩ => by
      subst e
      exact (s c n a oe d pn ht hz hv hn).run pins s' σ H Dn I q⟩⟩ hk, ?_⟩
    intro W Dn φ fd fv lv c n m1 F' H' σ' dx rl hx q
    unfold dHds at q
    simp only at q
    cases et : tb[c]? with
    | none => simp only [et] at q; exact q.elim
    | some b =>
      refine ⟨b, hT c b et, fun e a ha => ?_, fun e => ?_⟩
      · subst e
        simp only [et] at q
        cases eh : hide (some i) m1 with
        | none => simp only [eh] at q; exact q.elim
        | some m2 =>
          simp only [eh] at q
          obtain ⟨d0, e0, rfl⟩ := hide_some eh
          have hlen : i < σ'.length := by rw [rl.sl]; exact (List.getElem?_eq_some_iff.mp e0).1
          refine ⟨c, n, rfl, et, fun e => by subst e; exact hx, by simp [hlen], tS_post.mpr ⟨φ, fd, fv, F', _, lv, rl.hid e0 (.ref a), ?_⟩⟩
          have out : ∀ {m3 m4 : M} {F2 H2 : Hp} {σ2 : L2.St}, hide (some i) m3 = some m4 → Rel X.K cl fd fv F2 H2 σ2 m3 lv → Rel X.K cl fd fv F2 H2 (σ2.set i none) m4 lv := fun {m3 m4 F2 H2 σ2} e r => by
            obtain ⟨d3, e3, rfl⟩ := hide_some e
            exact r.drop1 (List.getElem?_eq_some_iff.mp e3).1 (fun k hk => by rw [e3] at hk; cases hk)
          cases e3 : h c n (setS m1 i .abs) with
          | no => simp only [e3] at q; exact q
          | ex c' n' m3 => simp only [e3] at q; exact q.elim
          | ok fl m3 =>
            simp only [e3] at q
            cases fl with
            | rt d => exact q
            | nx =>
              cases e4 : hide (some i) m3 with
              | none => simp only [e4] at q; exact q.elim
              | some m4 => simp only [e4] at q; exact fun F2 H2 σ2 r2 => q F2 H2 _ (out e4 r2)
            | bk =>
              cases e4 : hide (some i) m3 with
              | none => simp only [e4] at q; exact q.elim
              | some m4 => simp only [e4] at q; exact fun F2 H2 σ2 r2 => q F2 H2 _ (out e4 r2)
            | ct =>
              cases e4 : hide (some i) m3 with
              | none => simp only [e4] at q; exact q.elim
              | some m4 => simp only [e4] at q; exact fun F2 H2 σ2 r2 => q F2 H2 _ (out e4 r2)
      · subst e
        simp only [et] at q
        exact ih W Dn φ fd fv lv c n m1 F' H' σ' dx rl hx q
theorem st_tyN {e0 : ExceptHandler} {es : List ExceptHandler} {l : List Hd} (hs : X.stack = X.env :: X.outer) (hf : X.env.frame = some X.env.locals) (tk : Takes X W) (nd : X.N.Nodup)
    (hb : ∀ (W : WX) (pn : List (Addr × Obj)) (xe : Value → Shared → Prop), Takes (X.tr pn xe) W → PassesOwn (model X.prog X.w) X.A X.env xe → PSsd (X.tr pn xe) cl xc W body p)
    (hh : HdOk X cl xc (e0 :: es) l) : PSd X cl xc W (.Try body (e0 :: es) [] [] pos) (dTryN p l) := by
  obtain ⟨k, hk, hq⟩ := hdOk_cls hh
  refine ps_imp (ps_tryN hs hf nd tk (tb := fun W => tS X.K cl xc W p) hb hk) fun Dn σ H q => ?_
  obtain ⟨φ, fd, fv, F, m, lv, r, q⟩ := tS_post.mp q
  refine tS_post.mpr ⟨φ, fd, fv, F, m, lv, r, ?_⟩
  unfold dTryN at q
  cases ep : p m with
  | no => simp only [ep] at q; exact q
  | ok fl m' => simp only [ep] at q; cases fl <;> exact q
  | ex c n m1 =>
    simp only [ep] at q
    exact fun F' H' σ' dx r' hx => hq W Dn φ fd fv lv c n m1 F' H' σ' dx r' hx q
end
@[simp] theorem dTryN_ap (b : M → R Fl) (hs : List Hd) (m : M) : dTryN b hs m = (match b m with
  | .ex c n m1 => dHds hs c n m1
  | r => r) := rfl
@[simp] theorem dHds_e (c : Nat) (n : Option Int) (m : M) : dHds [] c n m = .ex c n m := rfl
@[simp] theorem dHds_c (i : Option Nat) (sb : List Bool) (h : Nat → Option Int → M → R Fl) (r : List Hd) (c : Nat) (n : Option Int) (m : M) : dHds (⟨i, sb, h⟩ :: r) c n m = (match sb[c]? with
    | some true => match hide i m with
      | some m2 => match h c n m2 with
        | .ok (.rt d) m3 => .ok (.rt d) m3
        | .ok fl m3 => match hide i m3 with
          | some m4 => .ok fl m4
          | none => .no
        | _ => .no
      | none => .no
    | some false => dHds r c n m
    | none => .no) := rfl
end Rf
namespace Rf
open PySem L2 PySem.Spec PyProof.Rows HT
/-! t[::-1] of a tuple -/
theorem rev_pick (xs : Array Value) : ((List.range xs.size).filterMap fun (k : Nat) => xs[((xs.size : Int) - 1 + (k : Int) * (-1)).toNat]?) = xs.toList.reverse := by
  apply List.ext_getElem?
  intro i
  have e : ((List.range xs.size).filterMap fun (k : Nat) => xs[((xs.size : Int) - 1 + (k : Int) * (-1)).toNat]?) = (List.range xs.size).map fun k => xs.toList.getD (xs.size - 1 - k) .none := by
    have : ∀ l : List Nat, (∀ k, k ∈ l → k < xs.size) → (l.filterMap fun (k : Nat) => xs[((xs.size : Int) - 1 + (k : Int) * (-1)).toNat]?) = l.map fun k => xs.toList.getD (xs.size - 1 - k) .none := by
      intro l
      induction l with
      | nil => intro _; rfl
      | cons k l ih =>
        intro h
        have hk := h k (by simp)
        have e1 : ((xs.size : Int) - 1 + (k : Int) * (-1)).toNat = xs.size - 1 - k := by omega
        have e2 : xs.size - 1 - k < xs.size := by omega
        rw [List.filterMap_cons]
        simp only [e1]
        rw [Array.getElem?_eq_getElem e2]
        simp only [List.map_cons]
        rw [ih fun j hj => h j (by simp [hj])]
        congr 1
        rw [List.getD_eq_getElem?_getD, List.getElem?_eq_getElem (by simpa using e2)]
        simp
    exact this _ fun k hk => by simpa using hk
  rw [e]
  by_cases hi : i < xs.size
  · rw [List.getElem?_map, List.getElem?_range hi]
    rw [List.getElem?_reverse (by simpa using hi)]
    simp only [Option.map_some, Array.length_toList]
    rw [List.getD_eq_getElem?_getD]
    have e2 : xs.size - 1 - i < xs.toList.length := by rw [Array.length_toList]; omega
    rw [List.getElem?_eq_getElem e2]; rfl
  · rw [List.getElem?_eq_none (by simp; omega), List.getElem?_eq_none (by simp; omega)]
section
variable {prog : Program} {w : World} {A : Around} {E : Value → Shared → Prop} {s : Shared}
theorem getItem_tuple_rev {t sl : Addr} {items : Array Value} {vs : Value} {Q : Value → Shared → Prop} (ht : IsTup s.heap t items) (hs : s.heap.IsSliceOf sl .none .none vs) (ps : IsPart vs (some (-1))) (hn : 0 < items.size)
    (h : Q (.ref s.heap.objs.size) { s with heap := s.heap.push { cls := .type "tuple", data := .seq items.toList.reverse.toArray } }) (hz : items.size ≤ sizeLine) : wpAny (model prog w) A (getItem (.ref t) (.ref sl)) Q E s := by
  obtain ⟨os, g1, g2, g3⟩ := id hs
  have isS : s.TypeIs (.ref sl) "slice" := ⟨os, g1, g2⟩
  have fits : sizeOk (.seq items.toList.reverse.toArray) := by
    show items.toList.reverse.toArray.size ≤ sizeLine
    rw [List.size_toArray, List.length_reverse, Array.length_toList]
    exact hz
  unfold getItem
  try with_reducible refine wpAny_holding ?_
  first | refine wpAny_bind (wpAny_pure ?_) | skip
  refine wpAny_bind (wpAny_sequenceKey ht.typeIs (by decide) ?_)
  refine wpAny_bind (wpAny_callSpecial?_slot (name := Str.ofString "__getitem__") ht.typeIs PyProof.Rows.slot_tuple_getitem (wpAny_call_entry PyProof.Rows.slot_tuple_getitem ht.typeIs entry_tuple_getitem ?_ (args_tuple_getitem _ _)))
  show wpAny _ _ (Builtin.Tuple.tupleItemsOf (.ref t) >>= _) _ _ s
  refine wpAny_bind (tupleItemsOf_ ht (wpAny_bind (wpAny_typeOf isS ?_)))
  rw [if_pos (by decide)]
  refine wpAny_bind ?_
  show wpAny _ _ (Builtin.Slice.sliceApplied (.ref sl) (pure (items.size : Int))) _ _ s
  unfold Builtin.Slice.sliceApplied Builtin.Slice.sliceFields
  refine wpAny_bind (wpAny_bind (wpAny_field g1 g3 (x := .none) rfl (wpAny_bind (wpAny_field g1 g3 (x := .none) rfl (wpAny_bind (wpAny_field g1 g3 (x := vs) rfl (wpAny_pure ?_)))))))
  refine wpAny_bind (slicePart_ ps ?_)
  show wpAny _ _ (if ((-1 : Int) == 0) = true then _ else _) _ _ s
  rw [if_neg (by decide)]
  refine wpAny_bind (slicePart_none (wpAny_bind (slicePart_none (wpAny_bind (wpAny_pure ?_)))))
  have ea : Builtin.Slice.sliceAdjust none none (-1) (items.size : Int) = ((items.size : Int) - 1, -1) := rfl
  show wpAny _ _ (match Builtin.Slice.sliceAdjust none none (-1) (items.size : Int) with | (lo, hi) => pure (lo, (-1 : Int), Builtin.Slice.slicePlaces lo hi (-1))) _ _ s
  rw [ea]
  have ep : Builtin.Slice.slicePlaces ((items.size : Int) - 1) (-1) (-1) = items.size := by
    unfold Builtin.Slice.slicePlaces
    rw [if_neg (by decide), if_pos (by omega)]
    have : (-(-1 : Int)) = 1 := rfl
    rw [this, Int.ediv_one]
    omega
  show wpAny _ _ (pure ((items.size : Int) - 1, (-1 : Int), Builtin.Slice.slicePlaces ((items.size : Int) - 1) (-1) (-1))) _ _ s
  rw [ep]
  refine wpAny_pure ?_
  have no : ¬ (((items.size : Int) - 1 == 0 && (-1 : Int) == 1 && items.size == items.size) = true) := by simp
  show wpAny _ _ (if ((items.size : Int) - 1 == 0 && (-1 : Int) == 1 && items.size == items.size) = true then _ else _) _ _ s
  rw [if_neg no, rev_pick]
  first
    | exact wpAny_bind (m := Builtin.Tuple.tupleExact _) (wpAny_newObj_type (wpAny_pure ⟨_, rfl, wpAny_pure h⟩) fits)
    | exact wpAny_bind (m := Builtin.Tuple.tupleExact _) (wpAny_newObj_type (wpAny_bind (wpAny_pure (wpAny_pure ⟨_, rfl, wpAny_pure h⟩))) fits)
    | exact wpAny_bind (wpAny_bind (m := Builtin.Tuple.tupleExact _) (wpAny_newObj_type (wpAny_pure (wpAny_pure ⟨_, rfl, wpAny_pure h⟩)) fits))
    | exact wpAny_bind (wpAny_bind (m := Builtin.Tuple.tupleExact _) (wpAny_newObj_type (wpAny_pure ⟨_, rfl, wpAny_pure h⟩) fits))
end
def tRevT (K : PySem.W.Frag) (te : TE) : TE := fun σ H Q => te σ H fun x H1 => ∃ a xs, x = .ref a ∧ SqT K H1 a xs ∧ 0 < xs.length ∧ ∀ p, H1 p = none → Q (.ref p) (upd H1 p (.tup xs.reverse))
section
variable {X : Cx} {cl : Nat → Addr} {xc : XC} {W : WX} {e : Expr} {f : M → R D} {p1 p2 p3 pos : Pos}
theorem pe_revT {te : TE} {k : Nat} (he : PE X e te) : PE X (.Subscript e (.Slice none none (some (.UnaryOp .USub (.Constant (.int 1) k p1) p2)) p3) pos) (tRevT X.K te) := by
  constructor
  intro pins s σ H Q I h
  refine Subscript_ (thn (he.run pins s σ H _ I h) fun v s1 hv => ?_)
  obtain ⟨x, H1, I1, r1, a, xs, rfl, hx, hpos, q⟩ := hv
  cases r1
  have hst : PO X (some (.UnaryOp .USub (.Constant (.int 1) k p1) p2)) (tPart (tUn (rU fun i => .int (-i)) (tC (.int 1)))) := po_some (pe_un un_neg pe_int)
  refine wpAny_Slice (thn (po_none.run pins s1 σ H1 (fun o H2 => o = none ∧ H2 = H1) I1 ⟨rfl, rfl⟩) fun vl s2 h2 => ?_)
  obtain ⟨l, H2, I2, pl, rfl, rfl⟩ := h2
  refine thn (po_none.run pins s2 σ H2 (fun o H3 => o = none ∧ H3 = H2) I2 ⟨rfl, rfl⟩) fun vu s3 h3 => ?_
  obtain ⟨u, H3, I3, pu, rfl, rfl⟩ := h3
  refine thn (hst.run pins s3 σ H3 (fun o H4 => o = some (-1) ∧ H4 = H3) I3 ⟨1, rfl, -1, rfl, rfl, rfl⟩) fun vs s4 h4 => ?_
  obtain ⟨o, H4, I4, ps, rfl, rfl⟩ := h4
  cases pl
  cases pu
  have Ia : L2.Inv X pins σ H4 { s4 with heap := s4.heap.push { cls := .type "slice", data := .fields #[.none, .none, vs] } } := I4.kept (t' := s4.toks) fun b ob q => Heap.get?_push_of_some _ q
  obtain ⟨its, r, ht, hz⟩ := Ia.tuple hx
  have hlen := r.length
  show wpAny (model X.prog X.w) X.A (subscriptTail e (.Slice none none (some (.UnaryOp .USub (.Constant (.int 1) k p1) p2)) p3) (.ref a) (.ref s4.heap.objs.size)) (EP X pins σ Q) X.xe { s4 with heap := s4.heap.push { cls := .type "slice", data := .fields #[.none, .none, vs] } }
  refine tail_any (ops := [.ref a, .ref s4.heap.objs.size]) ht.typeIs (PyProof.Rows.slot_tuple_getitem.lookup) ?_ (by with_unfolding_all rfl)
  refine getItem_tuple_rev ht (Heap.IsSliceOf.new _ .none .none vs) ps (by rw [List.size_toArray]; omega) ?_ (by rw [List.size_toArray]; omega)
  refine ⟨.ref _, _, Ia.laid (t' := s4.toks) (o := .tup xs.reverse) (fun b ob q => Heap.get?_push_of_some _ q) (Nat.le_refl _) ?_, rfl, q _ (Ia.hok.fresh (Nat.le_refl _))⟩
  exact ⟨by rw [List.length_reverse]; exact hz, _, r.reverse, IsTup.new _ _⟩
def dRvT (f : M → R D) : M → R D := fun m => (f m).bind fun d m => match d with
  | .obj _ .tup (x :: ds) => .ok (.obj .own .tup (frzs (x :: ds)).reverse) m
  | _ => .no
theorem d_rvT {k : Nat} (he : PEd X cl xc W e f) : PEd X cl xc W (.Subscript e (.Slice none none (some (.UnaryOp .USub (.Constant (.int 1) k p1) p2)) p3) pos) (dRvT f) :=
  pe_imp (pe_revT he) fun σ H Q h => tE_bind h fun φ fd fv F H1 m lv x d r1 q => by
    cases d with
    | obj o kd ds =>
      cases kd with
      | tup =>
        cases ds with
        | nil => simp only at q
        | cons y ds =>
          simp only at q
          obtain ⟨F', b, vs, rfl, ex, w2, rs, kr, _⟩ := r1.wf.toTop.openTop
          exact ⟨b, vs, rfl, kr, by rw [rs.len, frzs_len]; simp, fun p hp => q F' _ _ ((r1.pop.with w2).push (w2.newSh rs.rev hp rfl))⟩
      | _ => simp only at q
    | _ => simp only at q
end
@[simp] theorem dRvT_ap (f : M → R D) (m : M) : dRvT f m = ((f m).bind fun d m => match d with
  | .obj _ .tup (x :: ds) => .ok (.obj .own .tup (frzs (x :: ds)).reverse) m
  | _ => .no) := rfl
end Rf
namespace Rf
open PySem L2
/-- the value of a block that returns -/
def rtD : R Fl → Option D
  | .ok (.rt d) _ => some d
  | _ => none
@[simp] theorem rtD_r (d : D) (m : M) : rtD (.ok (.rt d) m) = some d := rfl
@[simp] theorem rtD_n (m : M) : rtD (.ok .nx m) = none := rfl
theorem rt_of {r : R Fl} {d : D} (h : rtD r = some d) : Rt d r := by
  unfold rtD at h
  split at h
  · cases h; exact ⟨_, rfl⟩
  · cases h
end Rf
namespace Rf
open PySem L2
/-! list(range(n)) -/
def dLRg (f : M → R D) : M → R D := fun m => (f m).bind fun d m => match d with
  | .int n => if n.natAbs ≤ 1000000 then .ok (.obj .own .lst ((List.range n.toNat).map fun k => .int (k : Nat))) m else .no
  | _ => .no
section
variable {X : Cx} {cl : Nat → Addr} {xc : XC} {W : WX} {e : Expr} {f : M → R D} {p1 p2 p3 pos : Pos}
theorem d_lrg (hc : X.calm = true) (hml : X.mg "list" = none) (hmr : X.mg "range" = none) (he : PEd X cl xc W e f) (hgl : X.env.kindOf "list" = some .globalImplicit := by kernel_rfl) (hgr : X.env.kindOf "range" = some .globalImplicit := by kernel_rfl)
    (n1 : starEach [e] X.env = (false, eval e X.env) :: starEach [] X.env := by kernel_rfl) (n2 : starEach [.Call (.Name "range" p1) [e] [] p2] X.env = (false, eval (.Call (.Name "range" p1) [e] [] p2) X.env) :: starEach [] X.env := by kernel_rfl) :
    PEd X cl xc W (.Call (.Name "list" p3) [.Call (.Name "range" p1) [e] [] p2] [] pos) (dLRg f) :=
  pe_imp (pe_listRg hc hgl hml (prg_1 hgr hmr he n1) n2) fun σ H Q h => tE_bind h fun φ fd fv F H1 m lv x d r1 q => by
    cases d with
    | int n =>
      by_cases hn : n.natAbs ≤ 1000000
      · simp only [hn, if_true] at q
        obtain ⟨fp, rx⟩ := r1.wf.toTop.topRep
        obtain ⟨rfl, _⟩ := rx
        refine ⟨n, rfl, ⟨by omega, by omega, by omega, by omega, by omega⟩, fun p hp => ?_⟩
        have w2 := r1.wf.toTop.pop
        have e1 : (List.range n.toNat).map (fun k => D.int ((k : Nat) : Int)) = ((List.range n.toNat).map fun k => ((k : Nat) : Int)).map D.int := by rw [List.map_map]; rfl
        have e2 : rgV 0 n = ((List.range n.toNat).map fun k => ((k : Nat) : Int)).map V.int := by
          unfold rgV
          rw [List.map_map, Int.sub_zero]
          congr 1
          funext k
          simp
        rw [e1] at q
        rw [e2]
        exact q F _ _ ((r1.pop.with w2).push (w2.newSh (reps_ints _) hp rfl))
      · simp only [hn, if_false] at q
    | _ => simp only at q
end
@[simp] theorem dLRg_ap (f : M → R D) (m : M) : dLRg f m = ((f m).bind fun d m => match d with
  | .int n => if n.natAbs ≤ 1000000 then .ok (.obj .own .lst ((List.range n.toNat).map fun k => .int (k : Nat))) m else .no
  | _ => .no) := rfl
end Rf
namespace Rf
open PySem L2
/-! x[e][s] = v, e anything that reckons an int -/
def dSetIxD (i : Nat) (f1 : M → R D) (s : SF) (f : M → R D) : M → R Fl := fun m => (f m).bind fun d m => if isAbs (rd m i) then .no else (f1 m).bind fun k m => match k with
  | .int k => dSetIx i [.ix (sC (.int k))] s (fun m => .ok d m) m
  | _ => .no
section
variable {X : Cx} {cl : Nat → Addr} {xc : XC} {W : WX} {e e1 ix : Expr} {f f1 : M → R D} {s : SF} {pos p0 p1 p2 : Pos}
theorem st_xD {i : Nat} {x : Str} (he : PEd X cl xc W e f) (h1e : PEd X cl xc W e1 f1) (hi : PEs X cl ix s) (hN : X.N[i]? = some x := by kernel_rfl) (hv : visB X.env.scope x = true := by kernel_rfl) (hp : PlainIx e1 := by exact fun _ _ => by kernel_rfl) (ha : ∀ v, assign (.Subscript (.Subscript (.Name x p0) e1 p2) ix p1) X.env v = (do
      let ov ← holding [v] (eval (.Subscript (.Name x p0) e1 p2) X.env)
      let iv ← holding [v, ov] (eval ix X.env)
      standAt p1
      holding [v, ov, iv] (setItem ov iv v)
      release [v, ov, iv] []) := by exact fun _ => by kernel_rfl)
    (hs : swapsWithSole [.Subscript (.Subscript (.Name x p0) e1 p2) ix p1] e pos.line X.env = pure false := by kernel_rfl) (hw : swappedStores [.Subscript (.Subscript (.Name x p0) e1 p2) ix p1] e X.env = pure none := by kernel_rfl) (h1 : (assignEach [.Subscript (.Subscript (.Name x p0) e1 p2) ix p1] X.env).map (·.2) = [assign (.Subscript (.Subscript (.Name x p0) e1 p2) ix p1) X.env] := by kernel_rfl) :
    PSd X cl xc W (.Assign [.Subscript (.Subscript (.Name x p0) e1 p2) ix p1] e pos) (dSetIxD i f1 s f) := by
  obtain ⟨v1, v2, v3⟩ := vis_of hv
  refine ps_imp (ps_asg he (pg_sub (pe_ix ix_seq (pe_var hN v1 v2 v3) h1e hp) hi set_list ha) hs hw h1) fun Dn σ H hq => tS_E hq fun φ fd fv F H1 m lv xv d r q => ?_
  cases hab : isAbs (rd m i) with
  | true => simp only [hab, if_true] at q; exact q.elim
  | false =>
    simp only [hab, Bool.false_eq_true, if_false] at q
    refine ⟨_, (r.pop.at hab).2, _, psh d fd, psh xv fv, F, m, lv, r, ?_⟩
    cases ef : f1 m with
    | no => simp only [ef, R.bind] at q; exact q.elim
    | ex c n m2 => simp only [ef, R.bind] at q ⊢; exact fun F' H' dx r' => q F' H' σ dx r'.pop
    | ok k m2 =>
      simp only [ef, R.bind] at q ⊢
      intro F2 H2 vk r2
      cases k with
      | int k =>
        simp only at q
        obtain ⟨fk, rk⟩ := r2.wf.toTop.topRep
        obtain ⟨rfl, _⟩ := rk
        have r3 := r2.pop
        unfold dSetIx at q
        simp only [R.bind] at q
        split at q
        · rename_i p xs k' er es
          split at q
          · rename_i hdn
            split at q
            · rename_i j ej
              have hg := resolve_get er
              have hi0 := vat_of r3 hg (by simp)
              obtain ⟨a, vs, u, f', va, ha', hu, hlen, rv, put⟩ := r3.mutAt hi0 hg hdn
              have hu : u = .lst vs := hu
              subst hu
              -- the way from the root to the row
              cases es1 : step1 m2 (rd m2 i) (.ix (sC (.int k))) with
              | none => simp only [resolve, es1] at er; cases er
              | some zz =>
                obtain ⟨q1, y1⟩ := zz
                simp only [resolve, es1, Option.map_some, Option.some.injEq, Prod.mk.injEq] at er
                obtain ⟨rfl, rfl⟩ := er
                have ev : cV σ lv fv (root φ m i) = cV σ lv fv (root φ m2 i) := same_v r.pop r3.pop hab hi0
                obtain ⟨o', k2, ds', a', vs', jj, yy, w1, eroot, evr, g1, g2, g3, g4, g5, g6⟩ := va
                have g6 : V.ref a = w1 := g6
                subst g6
                rw [eroot] at es1
                obtain ⟨hk, i', j', ei, ejj, e1', eyy⟩ := kIx es1
                subst e1'
                have ei : k = i' := by cases ei; rfl
                subst ei
                have hat : atI vs' k = some (V.ref a) := by
                  have : jj = j' := by
                    rcases hk with rfl | rfl <;> (simp only [kix] at g2; split at g2 <;> simp at g2; exact g2.symm)
                  subst this
                  unfold atI
                  rw [g5, ejj]
                  exact g4
                have fin : ∃ (φ : Type) (fd : φ → D) (fv : φ → V) (F : Hp) (m : M) (lv : List V), Rel X.K cl fd fv F H2 σ m lv ∧ ∃ d_1, s m = some d_1 ∧ isSc d_1 = true ∧ ∀ v, Scal d_1 v → rSetL (.ref a) v xv H2 (fun H' => Dn.nx σ H') := by
                  refine ⟨φ, fd, fv, F2, m2, lv, r3.pop, _, es, rfl, fun vk hk => ?_⟩
                  have hk : vk = .int k' := hk
                  subst hk
                  refine ⟨a, vs, k', j, rfl, rfl, ha', by rw [hlen]; exact ej, ?_⟩
                  have r4 := put (.lst (vs.set j xv)) .lst (xs.set j d) (vs.set j xv) rfl fun fps rs nd => by
                    have hj : j < xs.length := ixN_lt ej
                    obtain ⟨w2, f1, fm, f2, hw2, ry, efp, back⟩ := Reps.at rs (List.getElem?_eq_getElem hj)
                    subst efp
                    have nd1 := (List.nodup_append.mp nd)
                    obtain ⟨n1, n2, n3⟩ := nodup_mid nd1.1
                    refine ⟨f1 ++ f' ++ f2, back (Ex.refl F2) (fun b hb => ⟨(Reps.fp _ rs b (by simp at hb ⊢; rcases hb with h | h <;> simp [h])).1, rfl⟩) rv, nodup_mk nd1.2.1 (fun b hb => ⟨fun h => ?_, fun h => ?_⟩) n3, fun b hb => ?_⟩
                    · exact nd1.2.2 b (by simp [h]) b hb rfl
                    · exact nd1.2.2 b (by simp [h]) b hb rfl
                    · simp at hb ⊢; rcases hb with h | h | h <;> simp [h]
                  exact q F2 _ σ r4
                rw [ev, evr]
                rcases hk with rfl | rfl
                · exact .inl ⟨a', vs', k, .ref a, rfl, rfl, g1, hat, fin⟩
                · exact .inr (.inl ⟨a', vs', k, .ref a, rfl, rfl, g1, hat, fin⟩)
            · exact q.elim
          · exact q.elim
        · exact q.elim
      | _ => exact q.elim
end
@[simp] theorem dSetIxD_ap (i : Nat) (f1 : M → R D) (s : SF) (f : M → R D) (m : M) : dSetIxD i f1 s f m = ((f m).bind fun d m => if isAbs (rd m i) then .no else (f1 m).bind fun k m => match k with
  | .int k => dSetIx i [.ix (sC (.int k))] s (fun m => .ok d m) m
  | _ => .no) := rfl
end Rf
namespace Rf
open PySem L2
/-! calls that only look: the arguments are looked at where they stand; all that stood in the heap stands as before -/
noncomputable def pinD (H : Hp) (a : {a : Addr // ∃ o, H a = some o}) : D := .pin a.1 (Classical.choose a.2)
def pinV (H : Hp) (_ : {a : Addr // ∃ o, H a = some o}) : V := .non
section
variable {K : PySem.W.Frag} {cl : Nat → Addr} {xc : XC}
theorem pin_ex {H F' H' : Hp} {ι : Type} {rd : ι → D} {rv : ι → V} (w : WF K cl F' H' rd rv) (j : {a : Addr // ∃ o, H a = some o} → ι) (hj : ∀ a, rd (j a) = pinD H a) : Ex H H' := by
  intro a o h
  obtain ⟨fp, h1, _⟩ := w.fp
  have q := h1 (j ⟨a, o, h⟩)
  rw [hj] at q
  have q := q.1
  have e := Classical.choose_spec (p := fun o => H a = some o) ⟨o, h⟩
  have e2 := h.symm.trans e
  have e3 : o = _ := Option.some.inj e2
  rw [e3]
  exact w.ex _ _ q
theorem wf_look {F H : Hp} (ex : Ex F H) {ds : List D} {vs : List V} (e : Each K cl F H ds vs) : WF K cl H H (pshs .abs (ds.map frz) (pinD H)) (pshs .non vs (pinV H)) := by
  refine ⟨Ex.refl H, fun _ => [], fun r => ?_, fun r => by simp, fun r r' b hb => by simp at hb⟩
  rcases r with i | a
  · show Rep K cl H H ((ds.map frz)[i]?.getD .abs) (vs[i]?.getD .non) []
    cases hi : ds[i]? with
    | none => rw [List.getElem?_map, hi]; rfl
    | some d =>
      obtain ⟨v, fx, hv, r⟩ := e.get hi
      rw [List.getElem?_map, hi, hv]
      exact Rep.frz d r ex fun b _ => rfl
  · exact ⟨Classical.choose_spec a.2, rfl⟩
theorem spF_look {F H : Hp} {np : Nat} {fn : List D → RC} {vs : List V} {ds : List D} {Q : VK} {E : XK} (ex : Ex F H) (he : Each K cl F H ds vs) (hnp : ds.length = np) (h : match fn (ds.map frz) with
    | .ok d _ => isSc d = true ∧ ∀ (H' : Hp) (v : V), Ex H H' → Scal d v → Q v H'
    | .ex c n _ => ∀ (H' : Hp) (dx : Option Addr), Ex H H' → ExcAt xc c n dx H' → E (.ref (xc.cls c)) dx H'
    | .no => False) : spF K cl xc np fn vs H Q E := by
  refine ⟨_, pinD H, pinV H, H, ds.map frz, by rw [he.len]; exact hnp, by rw [List.length_map]; exact hnp, wf_look ex he, ?_⟩
  cases ef : fn (ds.map frz) with
  | no => rw [ef] at h; exact h
  | ok d as =>
    rw [ef] at h
    obtain ⟨hs, h⟩ := h
    intro F' H' v _ w
    obtain ⟨fx, rx⟩ := w.topRep
    exact h H' v (pin_ex w (fun a => some (.inr a)) fun a => rfl) (rx.scal hs)
  | ex c n as =>
    rw [ef] at h
    exact fun F' H' dx _ w hx => h H' dx (pin_ex w (fun a => .inr a) fun a => rfl) hx
end
def dLook (f : List D → RC) (gs : List SF) : M → R D := fun m => match pargs gs m with
  | some ds => match f (ds.map frz) with
    | .ok d _ => if isSc d then .ok d m else .no
    | .ex c n _ => .ex c n m
    | .no => .no
  | none => .no
theorem pargs_len : ∀ {gs : List SF} {m : M} {ds : List D}, pargs gs m = some ds → ds.length = gs.length
  | [], m, ds, h => by cases h; rfl
  | g :: gs, m, ds, h => by
    unfold pargs at h
    cases e1 : g m with
    | none => rw [e1] at h; cases h
    | some d =>
      cases e2 : pargs gs m with
      | none => rw [e1, e2] at h; cases h
      | some ds' =>
        rw [e1, e2] at h
        cases h
        rw [List.length_cons, List.length_cons, pargs_len e2]
section
variable {X : Cx} {cl : Nat → Addr} {xc : XC} {W : WX} {e : Expr} {es : List Expr} {gs : List SF} {pos : Pos}
theorem d_lookF {k : Nat} {fa : Addr} {fdt : FuncData} {ps : List Str} {x : Str} {p : Pos} {fn : List D → RC} (tk : Takes X W) (G : FnOk X.prog X.w X.K X.mg X.base (L2.CX X.prog X.w) k fa fdt ps (spF X.K cl xc ps.length fn)) (hr : Room k X.A) (hg : Gl X x) (hm : X.mg x = some (.ref fa)) (hk : PySem.W.keepIn X.K (.ref fa) = true) (hb : Binds X.K fdt ps [])
    (ha : PAp X cl (e :: es) gs) (hn : gs.length = ps.length) (hdb : (x == ("__debug__" : Str)) = false) (he : starEach (e :: es) X.env = (false, eval e X.env) :: starEach es X.env) (hpl : (backTo pos (starEach es X.env)).any (·.1) = false) : PEd X cl xc W (.Call (.Name x p) (e :: es) [] pos) (dLook fn gs) :=
  pe_imp (pe_callSD (E := fun σ c d H' => W c d σ H') G hr hg hm hk hb .nil (fun σ => passAt tk σ) ha hdb he hpl) fun σ H Q ⟨φ, fd, fv, F, m, lv, r, q⟩ => by
    unfold dLook at q
    cases ed : pargs gs m with
    | none => simp only [ed] at q
    | some ds =>
      simp only [ed] at q
      refine ⟨φ, fd, fv, F, m, lv, r, ds, ed, fun vs hv => ?_⟩
      show spF X.K cl xc ps.length fn (vs ++ []) H Q (fun c d H' => W c d σ H')
      rw [List.append_nil]
      refine spF_look r.wf.ex hv (by rw [pargs_len ed, hn]) ?_
      cases ef : fn (ds.map frz) with
      | no => simp only [ef] at q
      | ex c n as =>
        simp only [ef] at q ⊢
        exact fun H' dx ex hx => q F H' dx (r.with (r.wf.grow ex)) hx
      | ok d as =>
        simp only [ef] at q ⊢
        cases hs : isSc d with
        | false => simp [hs] at q
        | true =>
          simp only [hs, if_true] at q
          have q : ∀ (F' H' : Hp) (v : V), Rel X.K cl (psh d fd) (psh v fv) F' H' σ m lv → Q v H' := q
          exact ⟨rfl, fun H' v ex hv => q F H' v ((r.with (r.wf.grow ex)).push ((r.wf.grow ex).dup0 hv.rep))⟩
theorem d_look {j k np : Nat} {x : Str} {p : Pos} {fn : List D → RC} (tk : Takes X W) (G : Fo X.prog X.w X.K X.mg X.base cl xc j x np fn) (hr : Room k X.A) (ha : PAp X cl (e :: es) gs) (hjk : j ≤ k := by decide) (hn : gs.length = np := by kernel_rfl) (hg : X.env.kindOf x = some .globalImplicit := by kernel_rfl)
    (hdb : (x == ("__debug__" : Str)) = false := by kernel_rfl) (he : starEach (e :: es) X.env = (false, eval e X.env) :: starEach es X.env := by kernel_rfl) (hpl : (backTo pos (starEach es X.env)).any (·.1) = false := by kernel_rfl) : PEd X cl xc W (.Call (.Name x p) (e :: es) [] pos) (dLook fn gs) := by
  obtain ⟨fa, fdt, ps, rfl, hm, G, hk, hb⟩ := G
  exact d_lookF tk G (hr.mono hjk) hg hm hk hb ha hn hdb he hpl
end
@[simp] theorem dLook_ap (f : List D → RC) (gs : List SF) (m : M) : dLook f gs m = (match pargs gs m with
  | some ds => match f (ds.map frz) with
    | .ok d _ => if isSc d then .ok d m else .no
    | .ex c n _ => .ex c n m
    | .no => .no
  | none => .no) := rfl
end Rf
namespace Rf
open PySem L2
/-! looks at slots, beside values that are reckoned -/
def lookL : List Ar → List D → M → Option (List D)
  | [], [], _ => some []
  | .v _ :: r, d :: ds, m => (lookL r ds m).map (d :: ·)
  | .l i :: r, _ :: ds, m => if isAbs (rd m i) then none else (lookL r ds m).map (rd m i :: ·)
  | _, _, _ => none
def dLookA (f : List D → RC) (as : List Ar) : M → R D := fun m => (dArgs as m).bind fun ds m => match lookL as ds m with
  | some ds => match f (ds.map frz) with
    | .ok d _ => if isSc d then .ok d m else .no
    | .ex c n _ => .ex c n m
    | .no => .no
  | none => .no
section
variable {K : PySem.W.Frag} {cl : Nat → Addr} {F H : Hp} {φ : Type} {fd : φ → D} {fv : φ → V} {σ : St} {m : M} {lv : List V}
theorem lookL_ok (ra : ∀ i, isAbs (rd m i) = false → ∃ v fx, σ[i]? = some (some v) ∧ Rep K cl F H (rd m i) v fx) : ∀ (as : List Ar) (ds : List D) (vs : List V) (ds' : List D), lookL as ds m = some ds' → (∀ (j : Nat) (d : D), ds[j]? = some d → ∃ v fx, vs[j]? = some v ∧ Rep K cl F H d v fx) → vs.length = ds.length →
    (∀ (j i : Nat), as[j]? = some (.l i) → ∃ v, vs[j]? = some v ∧ σ[i]? = some (some v)) → Each K cl F H ds' vs ∧ ds'.length = as.length
  | [], [], [], ds', h, _, _, _ => by cases h; exact ⟨trivial, rfl⟩
  | [], [], _ :: _, _, _, _, hl, _ => by simp at hl
  | [], _ :: _, _, _, h, _, _, _ => by simp [lookL] at h
  | .v _ :: _, [], _, _, h, _, _, _ => by simp [lookL] at h
  | .l _ :: _, [], _, _, h, _, _, _ => by simp [lookL] at h
  | .v _ :: _, _ :: _, [], _, _, _, hl, _ => by simp at hl
  | .l _ :: _, _ :: _, [], _, _, _, hl, _ => by simp at hl
  | .v f :: as, d :: ds, v :: vs, ds', h, hr, hl, hc => by
    simp only [lookL] at h
    cases e : lookL as ds m with
    | none => rw [e] at h; cases h
    | some z =>
      rw [e] at h
      cases h
      obtain ⟨q1, q2⟩ := lookL_ok ra as ds vs z e (fun j d hj => by simpa using hr (j + 1) d (by simpa using hj)) (by simpa using hl) (fun j i hj => by simpa using hc (j + 1) i (by simpa using hj))
      obtain ⟨v', fx, hv, rv⟩ := hr 0 d rfl
      simp at hv
      subst hv
      exact ⟨⟨⟨fx, rv⟩, q1⟩, by simp [q2]⟩
  | .l i :: as, d :: ds, v :: vs, ds', h, hr, hl, hc => by
    simp only [lookL] at h
    cases ha : isAbs (rd m i) with
    | true => rw [if_pos ha] at h; cases h
    | false =>
      simp only [ha, Bool.false_eq_true, if_false] at h
      cases e : lookL as ds m with
      | none => rw [e] at h; cases h
      | some z =>
        rw [e] at h
        cases h
        obtain ⟨q1, q2⟩ := lookL_ok ra as ds vs z e (fun j d hj => by simpa using hr (j + 1) d (by simpa using hj)) (by simpa using hl) (fun j i hj => by simpa using hc (j + 1) i (by simpa using hj))
        obtain ⟨v', hv, hs⟩ := hc 0 i rfl
        simp at hv
        subst hv
        obtain ⟨v2, fx, hs2, rv⟩ := ra i ha
        rw [hs] at hs2
        cases hs2
        exact ⟨⟨⟨fx, rv⟩, q1⟩, by simp [q2]⟩
end
section
variable {X : Cx} {cl : Nat → Addr} {xc : XC} {W : WX} {e : Expr} {es : List Expr} {as : List Ar} {pos : Pos}
theorem d_lookB {k : Nat} {fa : Addr} {fdt : FuncData} {ps : List Str} {x : Str} {p : Pos} {fn : List D → RC} (tk : Takes X W) (G : FnOk X.prog X.w X.K X.mg X.base (L2.CX X.prog X.w) k fa fdt ps (spF X.K cl xc ps.length fn)) (hr : Room k X.A) (hg : Gl X x) (hm : X.mg x = some (.ref fa)) (hk : PySem.W.keepIn X.K (.ref fa) = true) (hb : Binds X.K fdt ps [])
    (ha : PAr X cl xc W (e :: es) as) (hn : as.length = ps.length) (hdb : (x == ("__debug__" : Str)) = false) (he : starEach (e :: es) X.env = (false, eval e X.env) :: starEach es X.env) (hpl : (backTo pos (starEach es X.env)).any (·.1) = false) : PEd X cl xc W (.Call (.Name x p) (e :: es) [] pos) (dLookA fn as) :=
  pe_imp (pe_callSD (E := fun σ c d H' => W c d σ H') G hr hg hm hk hb .nil (fun σ => passAt tk σ) ha hdb he hpl) fun σ H Q ⟨φ, fd, fv, F, m, lv, r, q⟩ => by
    refine ⟨φ, fd, fv, F, m, lv, r, ?_⟩
    unfold dLookA at q
    cases ed : dArgs as m with
    | no => simp only [ed, R.bind] at q
    | ex c n m1 => simp only [ed, R.bind] at q ⊢; exact q
    | ok ds m1 =>
      simp only [ed, R.bind] at q ⊢
      intro F1 H1 vs hl r1 hc
      show spF X.K cl xc ps.length fn (vs ++ []) H1 Q (fun c d H' => W c d σ H')
      rw [List.append_nil]
      cases el : lookL as ds m1 with
      | none => simp only [el] at q
      | some ds' =>
        simp only [el] at q
        obtain ⟨ea, elen⟩ := lookL_ok (K := X.K) (cl := cl) (F := F1) (H := H1) (σ := σ) (m := m1) (fun i hi => by
          obtain ⟨q1, q2⟩ := r1.untops.at hi
          obtain ⟨fp, h1, _⟩ := r1.untops.wf.fp
          have := h1 (root φ m1 i)
          rw [q1] at this
          exact ⟨_, _, q2, this⟩) as ds vs ds' el (fun j d hj => by
            obtain ⟨fp, h1, _⟩ := r1.wf.fp
            have := h1 (.fr (.inl j))
            have hj2 : j < vs.length := by rw [hl]; exact (List.getElem?_eq_some_iff.mp hj).1
            simp only [cD, cV, pshs, hj] at this
            rw [List.getElem?_eq_getElem hj2] at this
            exact ⟨vs[j], _, List.getElem?_eq_getElem hj2, this⟩) hl (fun j i hj => (hc j i hj).2)
        refine spF_look r1.wf.ex ea (by rw [elen, hn]) ?_
        have r2 := r1.untops
        cases ef : fn (ds'.map frz) with
        | no => simp only [ef] at q
        | ex c n as =>
          simp only [ef] at q ⊢
          exact fun H' dx ex hx => q F1 H' dx (r2.with (r2.wf.grow ex)) hx
        | ok d as =>
          simp only [ef] at q ⊢
          cases hs : isSc d with
          | false => simp [hs] at q
          | true =>
            simp only [hs, if_true] at q
            have q : ∀ (F' H' : Hp) (v : V), Rel X.K cl (psh d fd) (psh v fv) F' H' σ m1 lv → Q v H' := q
            exact ⟨rfl, fun H' v ex hv => q F1 H' v ((r2.with (r2.wf.grow ex)).push ((r2.wf.grow ex).dup0 hv.rep))⟩
theorem d_lookA {j k np : Nat} {x : Str} {p : Pos} {fn : List D → RC} (tk : Takes X W) (G : Fo X.prog X.w X.K X.mg X.base cl xc j x np fn) (hr : Room k X.A) (ha : PAr X cl xc W (e :: es) as) (hjk : j ≤ k := by decide) (hn : as.length = np := by kernel_rfl) (hg : X.env.kindOf x = some .globalImplicit := by kernel_rfl)
    (hdb : (x == ("__debug__" : Str)) = false := by kernel_rfl) (he : starEach (e :: es) X.env = (false, eval e X.env) :: starEach es X.env := by kernel_rfl) (hpl : (backTo pos (starEach es X.env)).any (·.1) = false := by kernel_rfl) : PEd X cl xc W (.Call (.Name x p) (e :: es) [] pos) (dLookA fn as) := by
  obtain ⟨fa, fdt, ps, rfl, hm, G, hk, hb⟩ := G
  exact d_lookB tk G (hr.mono hjk) hg hm hk hb ha hn hdb he hpl
end
@[simp] theorem dLookA_ap (f : List D → RC) (as : List Ar) (m : M) : dLookA f as m = ((dArgs as m).bind fun ds m => match lookL as ds m with
  | some ds => match f (ds.map frz) with
    | .ok d _ => if isSc d then .ok d m else .no
    | .ex c n _ => .ex c n m
    | .no => .no
  | none => .no) := rfl
@[simp] theorem lookL_nil (m : M) : lookL [] [] m = some [] := rfl
@[simp] theorem lookL_v (f : M → R D) (r : List Ar) (d : D) (ds : List D) (m : M) : lookL (.v f :: r) (d :: ds) m = (lookL r ds m).map (d :: ·) := rfl
@[simp] theorem lookL_l (i : Nat) (r : List Ar) (d : D) (ds : List D) (m : M) : lookL (.l i :: r) (d :: ds) m = if isAbs (rd m i) then none else (lookL r ds m).map (rd m i :: ·) := rfl
end Rf
namespace Rf
open PySem L2
/-! the plain side: tables told by functions of row and column -/
def gRows (o : Ow) (h w : Nat) (X : Nat → Nat → Int) : List D := rowsN o h fun r => (List.range w).map (X r)
def put2 (X : Nat → Nat → Int) (r c : Nat) (v : Int) : Nat → Nat → Int := fun a b => if a = r ∧ b = c then v else X a b
theorem gRows_len (o : Ow) (h w : Nat) (X : Nat → Nat → Int) : (gRows o h w X).length = h := rowsN_len _ _ _
theorem gRows_at (o : Ow) (h w : Nat) (X : Nat → Nat → Int) (r : Nat) (hr : r < h) : (gRows o h w X)[r]? = some (.obj o .lst (((List.range w).map (X r)).map D.int)) := rowsN_at o h _ r hr
theorem gRow_len (w : Nat) (X : Nat → Nat → Int) (r : Nat) : (((List.range w).map (X r)).map D.int).length = w := by simp
theorem gRow_at (w : Nat) (X : Nat → Nat → Int) (r c : Nat) (hc : c < w) : (((List.range w).map (X r)).map D.int)[c]? = some (.int (X r c)) := by
  rw [List.getElem?_map, List.getElem?_map, List.getElem?_range hc]; rfl
theorem gRows_set (o : Ow) (h w : Nat) (X : Nat → Nat → Int) (r c : Nat) (v : Int) (hr : r < h) (hc : c < w) : (gRows o h w X).set r (.obj o .lst ((((List.range w).map (X r)).map D.int).set c (.int v))) = gRows o h w (put2 X r c v) := by
  have e : (((List.range w).map (X r)).map D.int).set c (.int v) = (((List.range w).map (X r)).set c v).map D.int := by rw [List.map_set]
  rw [e]
  show (rowsN o h fun r => (List.range w).map (X r)).set r (liO o (((List.range w).map (X r)).set c v)) = rowsN o h _
  rw [rowsN_set o h _ r hr]
  unfold rowsN
  apply List.map_congr_left
  intro a ha
  show liO o (if a = r then _ else _) = liO o _
  congr 1
  by_cases q : a = r
  · subst q
    rw [if_pos rfl]
    apply List.ext_getElem?
    intro j
    by_cases hj : j < w
    · by_cases e2 : j = c
      · subst e2
        rw [List.getElem?_set_self (by simpa using hc), List.getElem?_map, List.getElem?_range hj]
        simp [put2]
      · rw [List.getElem?_set_ne (Ne.symm e2), List.getElem?_map, List.getElem?_map, List.getElem?_range hj]
        simp [put2, e2]
    · rw [List.getElem?_eq_none (by simp; omega), List.getElem?_eq_none (by simp; omega)]
  · rw [if_neg q]
    apply List.map_congr_left
    intro b _
    simp [put2, q]
/-- a store into a row of a table -/
theorem setIx_at {i : Nat} {s1 s : SF} {f : M → R D} {m0 m : M} {d : D} {rs xs : List D} {r c : Int} {r' c' : Nat} (hf : f m0 = .ok d m) (hm : rd m i = .obj .own .lst rs) (h1 : s1 m = some (.int r)) (hr : ixN rs.length r = some r') (hx : rs[r']? = some (.obj .own .lst xs)) (h2 : s m = some (.int c)) (hc : ixN xs.length c = some c') :
    dSetIx i [.ix s1] s f m0 = .ok .nx (wr m i (.obj .own .lst (rs.set r' (.obj .own .lst (xs.set c' d))))) := by
  have hl : r' < rs.length := (List.getElem?_eq_some_iff.mp hx).1
  rw [dSetIx_ap, hf, R.bind_ok, hm, resolve_cons, step1_l, h1]
  simp only [hr, hx, Option.map_some, resolve_nil, h2, hc]
  rw [if_pos (down_ix hl), dput_ix hl]
theorem setIx_grid {i : Nat} {s1 s : SF} {f : M → R D} {m0 m : M} {v : Int} {h w : Nat} {X : Nat → Nat → Int} {r c : Nat} (hf : f m0 = .ok (.int v) m) (hm : rd m i = .obj .own .lst (gRows .own h w X)) (h1 : s1 m = some (.int r)) (h2 : s m = some (.int c)) (hr : r < h) (hc : c < w) :
    dSetIx i [.ix s1] s f m0 = .ok .nx (wr m i (.obj .own .lst (gRows .own h w (put2 X r c v)))) := by
  rw [setIx_at hf hm h1 (r' := r) (by rw [gRows_len]; exact ixN_nat hr) (gRows_at .own h w X r hr) h2 (c' := c) (by rw [gRow_len]; exact ixN_nat hc), gRows_set .own h w X r c v hr hc]
/-- a look at a cell -/
theorem look_grid {i : Nat} {s1 s2 : SF} {m : M} {o o' : Ow} {h w : Nat} {X : Nat → Nat → Int} {r c : Nat} (hm : rd m i = .obj o .lst (gRows o' h w X)) (h1 : s1 m = some (.int r)) (h2 : s2 m = some (.int c)) (hr : r < h) (hc : c < w) : sLd i [.ix s1, .ix s2] m = some (.int (X r c)) := by
  rw [sLd_ap, hm, resolve_cons, step1_l, h1]
  have e1 : ixN (gRows o' h w X).length (r : Int) = some r := by rw [gRows_len]; exact ixN_nat hr
  have e2 : ixN (((List.range w).map (X r)).map D.int).length (c : Int) = some c := by rw [gRow_len]; exact ixN_nat hc
  simp only [e1, gRows_at o' h w X r hr, Option.map_some, resolve_cons, step1_l, h2, e2, gRow_at w X r c hc, resolve_nil, toSc_int]
theorem pLd_row {i : Nat} {s1 : SF} {m : M} {o : Ow} {rs : List D} {x : D} {r : Int} {r' : Nat} (hm : rd m i = .obj o .lst rs) (h1 : s1 m = some (.int r)) (hr : ixN rs.length r = some r') (hx : rs[r']? = some x) (ha : isAbs x = false) : pLd i [.ix s1] m = some x := by
  rw [pLd_ap, hm, resolve_cons, step1_l, h1]
  simp only [hr, hx, Option.map_some, resolve_nil, ha]
  rfl
end Rf
namespace Rf
open PySem L2
/-! f-strings -/
def dFmt (f : M → R D) : M → R D := fun m => (f m).bind fun d m => match d with
  | .str y => if y.length ≤ sizeLine then .ok (.str y) m else .no
  | .int i => if i.natAbs.log2 < 1920 then .ok (.str (toString i)) m else .no
  | _ => .no
def dJs : List (M → R D) → Str → M → R D
  | [], acc, m => .ok (.str acc) m
  | f :: fs, acc, m => (f m).bind fun d m => match d with
    | .str y => if (acc ++ y).length ≤ sizeLine then dJs fs (acc ++ y) m else .no
    | _ => .no
section
variable {X : Cx} {cl : Nat → Addr} {xc : XC} {W : WX} {e e1 e2 : Expr} {es : List Expr} {f : M → R D} {fs : List (M → R D)} {pos : Pos}
theorem d_fmt (he : PEd X cl xc W e f) : PEd X cl xc W (.FormattedValue e (-1) none pos) (dFmt f) :=
  pe_imp (pe_fmt he) fun σ H Q h => tE_bind h fun φ fd fv F H1 m lv x d r q => by
    obtain ⟨fp, rx⟩ := r.wf.toTop.topRep
    cases d with
    | str y =>
      obtain ⟨rfl, _⟩ := rx
      by_cases hy : y.length ≤ sizeLine
      · simp only [hy, if_true] at q
        exact .inl ⟨y, rfl, hy, q F H1 _ r⟩
      · simp only [hy, if_false] at q
    | int i =>
      obtain ⟨rfl, _⟩ := rx
      by_cases hi : i.natAbs.log2 < 1920
      · simp only [hi, if_true] at q
        exact .inr ⟨i, rfl, hi, q F H1 _ (r.pop.push (r.pop.wf.dup0 (d := .str (toString i)) ⟨rfl, rfl⟩))⟩
      · simp only [hi, if_false] at q
    | _ => simp only at q
def PFs (X : Cx) (cl : Nat → Addr) (xc : XC) (W : WX) (es : List Expr) (fs : List (M → R D)) : Prop := PJ X es (fs.map (tE X.K cl xc W))
theorem fs_n : PFs X cl xc W [] [] := .nil
theorem fs_c (h : PEd X cl xc W e f) (r : PFs X cl xc W es fs) : PFs X cl xc W (e :: es) (f :: fs) := .cons h r
theorem js_ok {σ : L2.St} {Q : VK} {φ : Type} {fd : φ → D} {fv : φ → V} {lv : List V} : ∀ (fs : List (M → R D)) (acc : Str) (F H : Hp) (m : M), Rel X.K cl fd fv F H σ m lv → (match dJs fs acc m with
      | .ok d m' => ∀ (F' H' : Hp) (v : V), Rel X.K cl (psh d fd) (psh v fv) F' H' σ m' lv → Q v H'
      | .ex c n m' => ∀ (F' H' : Hp) (dx : Option Addr), Rel X.K cl fd fv F' H' σ m' lv → ExcAt xc c n dx H' → W (.ref (xc.cls c)) dx σ H'
      | .no => False) → tJs (fs.map (tE X.K cl xc W)) acc σ H fun out H1 => Q (.str out) H1
  | [], acc, F, H, m, r, q => q F H _ (r.push (r.wf.dup0 ⟨rfl, rfl⟩))
  | f :: fs, acc, F, H, m, r, q => by
    refine ⟨φ, fd, fv, F, m, lv, r, ?_⟩
    unfold dJs at q
    cases e : f m with
    | no => simp only [e, R.bind] at q
    | ex c n m1 => simp only [e, R.bind] at q ⊢; exact q
    | ok d m1 =>
      simp only [e, R.bind] at q ⊢
      intro F1 H1 v r1
      obtain ⟨fp, rx⟩ := r1.wf.toTop.topRep
      cases d with
      | str y =>
        obtain ⟨rfl, _⟩ := rx
        simp only at q
        by_cases hy : (acc ++ y).length ≤ sizeLine
        · rw [if_pos hy] at q
          exact ⟨y, rfl, hy, js_ok fs (acc ++ y) F1 H1 m1 r1.pop q⟩
        · rw [if_neg hy] at q
          exact q.elim
      | _ => exact q.elim
theorem d_fs (h : PFs X cl xc W (e1 :: e2 :: es) fs) : PEd X cl xc W (.JoinedStr (e1 :: e2 :: es) pos) (dJs fs Str.empty) :=
  pe_imp (pe_joined h) fun σ H Q ⟨φ, fd, fv, F, m, lv, r, q⟩ => js_ok fs Str.empty F H m r q
theorem d_fs1 (h : PEd X cl xc W e f) : PEd X cl xc W (.JoinedStr [e] pos) f := pe_joined1 h
end
@[simp] theorem dFmt_ap (f : M → R D) (m : M) : dFmt f m = ((f m).bind fun d m => match d with
  | .str y => if y.length ≤ sizeLine then .ok (.str y) m else .no
  | .int i => if i.natAbs.log2 < 1920 then .ok (.str (toString i)) m else .no
  | _ => .no) := rfl
@[simp] theorem dJs_n (acc : Str) (m : M) : dJs [] acc m = .ok (.str acc) m := rfl
@[simp] theorem dJs_c (f : M → R D) (fs : List (M → R D)) (acc : Str) (m : M) : dJs (f :: fs) acc m = ((f m).bind fun d m => match d with
    | .str y => if (acc ++ y).length ≤ sizeLine then dJs fs (acc ++ y) m else .no
    | _ => .no) := rfl
end Rf
namespace Rf
open PySem L2
/-! sorted(xs), xs a list of pairs of whole numbers -/
def pairD : D → Option (Int × Int)
  | .obj o .tup [.int i, .int j] => if o ≠ .con then some (i, j) else none
  | _ => none
def pairsD : List D → Option (List (Int × Int))
  | [] => some []
  | d :: ds => (pairD d).bind fun x => (pairsD ds).map fun xs => x :: xs
def pairT (k : Int × Int) : D := .obj .shr .tup [.int k.1, .int k.2]
def insP (a : Int × Int) : List (Int × Int) → List (Int × Int)
  | [] => [a]
  | b :: l => if SrtO.lexB b a = true then b :: insP a l else a :: b :: l
def sortP : List (Int × Int) → List (Int × Int)
  | [] => []
  | a :: l => insP a (sortP l)
def bSortP : List D → Option D
  | [.obj o .lst ds] => (pairsD ds).map fun ks => .obj .own .lst ((sortP ks).map pairT)
  | _ => none
@[simp] theorem bSortP_l (o : Ow) (ds : List D) : bSortP [.obj o .lst ds] = (pairsD ds).map fun ks => .obj .own .lst ((sortP ks).map pairT) := rfl
theorem insP_perm (a : Int × Int) : ∀ l, (insP a l).Perm (a :: l)
  | [] => List.Perm.refl _
  | b :: l => by
    unfold insP
    split
    · exact ((insP_perm a l).cons b).trans (List.Perm.swap a b l)
    · exact List.Perm.refl _
theorem sortP_perm : ∀ l, (sortP l).Perm l
  | [] => List.Perm.refl _
  | a :: l => (insP_perm a (sortP l)).trans ((sortP_perm l).cons a)
abbrev SortedP (l : List (Int × Int)) : Prop := l.Pairwise fun x y => SrtO.lexB y x = false
theorem lexF {p q : Int × Int} : SrtO.lexB p q = false ↔ q.1 < p.1 ∨ (q.1 = p.1 ∧ q.2 ≤ p.2) := by
  have h := SrtO.lexB_iff (p := p) (q := q)
  constructor
  · intro e
    have : ¬ (p.1 < q.1 ∨ (p.1 = q.1 ∧ p.2 < q.2)) := fun z => by rw [h.mpr z] at e; cases e
    omega
  · intro e
    cases z : SrtO.lexB p q with
    | false => rfl
    | true => have := h.mp z; omega
theorem insP_sorted (a : Int × Int) : ∀ l, SortedP l → SortedP (insP a l)
  | [], _ => List.pairwise_singleton _ _
  | b :: l, h => by
    obtain ⟨h1, h2⟩ := List.pairwise_cons.mp h
    unfold insP
    split
    · rename_i e
      refine List.pairwise_cons.mpr ⟨fun y hy => ?_, insP_sorted a l h2⟩
      rcases List.mem_cons.mp ((insP_perm a l).mem_iff.mp hy) with rfl | hy
      · rw [lexF]; have := SrtO.lexB_iff.mp e; omega
      · exact h1 y hy
    · rename_i e
      have e : SrtO.lexB b a = false := by simpa using e
      refine List.pairwise_cons.mpr ⟨fun y hy => ?_, h⟩
      rcases List.mem_cons.mp hy with rfl | hy
      · exact e
      · have := h1 y hy
        rw [lexF] at *
        omega
theorem sortP_sorted : ∀ l, SortedP (sortP l)
  | [] => List.Pairwise.nil
  | a :: l => insP_sorted a _ (sortP_sorted l)
theorem sortedP_uniq : ∀ {l m : List (Int × Int)}, SortedP l → SortedP m → l.Perm m → l = m
  | [], m, _, _, p => (List.nil_perm.mp p).symm
  | a :: l, [], _, _, p => by have := p.length_eq; simp at this
  | a :: l, b :: m, hl, hm, p => by
    obtain ⟨h1, h2⟩ := List.pairwise_cons.mp hl
    obtain ⟨k1, k2⟩ := List.pairwise_cons.mp hm
    have e : a = b := by
      rcases List.mem_cons.mp (p.mem_iff.mp List.mem_cons_self) with e | e
      · exact e
      · rcases List.mem_cons.mp (p.mem_iff.mpr List.mem_cons_self) with e2 | e2
        · exact e2.symm
        · have q1 := k1 a e
          have q2 := h1 b e2
          rw [lexF] at q1 q2
          have x1 : a.1 = b.1 := by omega
          have x2 : a.2 = b.2 := by omega
          exact Prod.ext x1 x2
    subst e
    rw [sortedP_uniq h2 k2 p.cons_inv]
section
variable {K : PySem.W.Frag} {cl : Nat → Addr} {F H : Hp} {ι : Type} {rd : ι → D} {rv : ι → V}
theorem WF.top1 {d : D} {v : V} (w : WF K cl F H (pshs .abs [d] rd) (pshs .non [v] rv)) : WF K cl F H (psh d rd) (psh v rv) := by
  refine w.map (fun a => match a with | none => some (.inl 0) | some r => some (.inr r)) (fun a b r h1 h2 => ?_) (fun a r h => ?_) (fun a h => ?_)
  · have e := h1.trans h2.symm
    rcases a with _ | a <;> rcases b with _ | b <;> first | rfl | (simp at e; done) | (simp at e; subst e; rfl)
  · rcases a with _ | a <;> (cases h; exact ⟨rfl, rfl⟩)
  · rcases a with _ | a <;> cases h
/-- which pair a value stands for -/
def pairV (H : Hp) : V → Int × Int
  | .ref t => match H t with
    | some (.tup [.int i, .int j]) => (i, j)
    | _ => (0, 0)
  | _ => (0, 0)
theorem pair_of {F H : Hp} (ex : Ex F H) {d : D} {v : V} {fx : List Addr} {k : Int × Int} (r : Rep K cl F H (frz d) v fx) (e : pairD d = some k) : frz d = pairT k ∧ pairV H v = k ∧ ∃ t, v = .ref t ∧ H t = some (.tup [.int k.1, .int k.2]) := by
  unfold pairD at e
  split at e
  · rename_i o i j
    split at e
    · rename_i ho
      cases e
      have hf : frz (.obj o .tup [.int i, .int j]) = pairT (i, j) := by
        cases o with
        | con => exact absurd rfl ho
        | own => rfl
        | shr => rfl
      refine ⟨hf, ?_⟩
      rw [hf] at r
      obtain ⟨a, vs, rfl, _, ea, hm⟩ := r.opn ex
      obtain ⟨u, hu, hk⟩ := hm (by decide)
      have hk : u = .tup vs := hk
      subst hk
      have : vs = [V.int i, V.int j] := Each.intD (ns := [i, j]) ea
      subst this
      refine ⟨?_, a, rfl, hu⟩
      show (match H a with
        | some (.tup [.int i, .int j]) => (i, j)
        | _ => (0, 0)) = _
      rw [hu]
    · cases e
  · cases e
theorem pairs_of {F H : Hp} (ex : Ex F H) : ∀ {ds : List D} {vs : List V} {ks : List (Int × Int)}, Reps K cl F H (frzs ds) vs [] → pairsD ds = some ks → vs.map (pairV H) = ks ∧ (∀ v ∈ vs, ∃ t, v = .ref t ∧ H t = some (.tup [.int (pairV H v).1, .int (pairV H v).2]) ∧ Rep K cl F H (pairT (pairV H v)) v []) := by
  intro ds
  induction ds with
  | nil =>
    intro vs ks r e
    cases e
    have : vs = [] := r.1
    subst this
    exact ⟨rfl, fun v h => by cases h⟩
  | cons d ds ih =>
    intro vs ks r e
    unfold pairsD at e
    cases ed : pairD d with
    | none => rw [ed] at e; cases e
    | some k =>
      cases es : pairsD ds with
      | none => rw [ed, es] at e; cases e
      | some ks' =>
        rw [ed, es] at e
        cases e
        have he : Each K cl F H (frzs (d :: ds)) vs := Each.of r
        cases vs with
        | nil => exact he.elim
        | cons v vs =>
          have r0 : ∃ v', (v :: vs)[0]? = some v' ∧ Rep K cl F H (frz d) v' [] := r.at0 (i := 0) rfl
          obtain ⟨v', hv', r0⟩ := r0
          cases hv'
          obtain ⟨p1, p2, t, p3, p4⟩ := pair_of ex r0 ed
          have rt : Reps K cl F H (frzs ds) vs [] := he.2.reps (by
            rw [frzs_eq]
            refine List.all_eq_true.mpr fun x hx => ?_
            obtain ⟨y, _, rfl⟩ := List.mem_map.mp hx
            cases y with
            | obj o kd xs => cases o <;> rfl
            | _ => rfl)
          obtain ⟨q1, q2⟩ := ih rt es
          refine ⟨by rw [List.map_cons, p2, q1], fun x hx => ?_⟩
          rcases List.mem_cons.mp hx with rfl | hx
          · exact ⟨t, p3, by rw [p2]; exact p4, by rw [p2, ← p1]; exact r0⟩
          · exact q2 x hx
theorem sortP_cas : CaS K cl (rSortedPO K) bSortP := fun rd rv F H xs z vs Q e hl w k => by
  unfold bSortP at e
  split at e
  · rename_i o ds
    cases es : pairsD ds with
    | none => rw [es] at e; cases e
    | some ks =>
      rw [es] at e
      cases e
      obtain ⟨v, rfl⟩ : ∃ v, vs = [v] := by
        cases vs with
        | nil => cases hl
        | cons v vs => cases vs with
          | nil => exact ⟨v, rfl⟩
          | cons u vs => simp at hl
      obtain ⟨F', a, us, rfl, _, w2, rs, kr, _⟩ := w.top1.openTop
      obtain ⟨p1, p2⟩ := pairs_of w2.ex rs es
      refine ⟨a, us, pairV H, rfl, kr, fun x hx => ?_, fun ys p hs hb hp => ?_⟩
      · obtain ⟨t, q1, q2, _⟩ := p2 x hx
        exact ⟨t, q1, q2⟩
      · have hm : ys.map (pairV H) = sortP ks := by
          refine sortedP_uniq ?_ (sortP_sorted ks) ?_
          · exact List.pairwise_map.mpr hs
          · rw [← p1]
            exact (hb.perm.map _).trans (sortP_perm _).symm
        have each : ∀ {zs : List V}, (∀ z ∈ zs, z ∈ us) → Each K cl F' H ((zs.map (pairV H)).map pairT) zs := by
          intro zs
          induction zs with
          | nil => intro _; trivial
          | cons z zs ih =>
            intro hz
            obtain ⟨t, _, _, q3⟩ := p2 z (hz z (by simp))
            exact ⟨⟨[], q3⟩, ih fun y hy => hz y (by simp [hy])⟩
        have re := (each (zs := ys) fun z hz => hb.perm.mem_iff.mp hz).reps (by
          refine List.all_eq_true.mpr fun x hx => ?_
          obtain ⟨y, _, rfl⟩ := List.mem_map.mp hx
          rfl)
        rw [hm] at re
        exact k F' _ _ (w2.newSh re hp rfl)
  · cases e
end
section
variable {X : Cx} {cl : Nat → Addr} {xc : XC} {W : WX} {e : Expr} {es : List Expr} {ga : M → R (List D)} {x : Str} {pos : Pos}
structure CaO (X : Cx) (cl : Nat → Addr) (u : Value) (op : List D → Option D) : Prop where
  ex : ∃ r, CallR X u r ∧ CaS X.K cl r op
theorem co_sorted : CaO X cl (.builtin "sorted") bSortP := ⟨_, cr_sortedPO, sortP_cas⟩
theorem d_fO {id : String} {op : List D → Option D} {p : Pos} (hc : CaO X cl (.builtin id) op) (bo : Bo x (.builtin id)) (hm : X.mg x = none) (ha : PAd X cl xc W (e :: es) ga) (hg : X.env.kindOf x = some .globalImplicit := by kernel_rfl)
    (he : starEach (e :: es) X.env = (false, eval e X.env) :: starEach es X.env := by kernel_rfl) (hpl : (backTo pos (starEach es X.env)).any (·.1) = false := by kernel_rfl) : PEd X cl xc W (.Call (.Name x p) (e :: es) [] pos) (dB op ga) := by
  obtain ⟨r, h1, h2⟩ := hc
  exact d_blt h1 h2 hg hm bo.v ha bo.n bo.d he hpl
end
end Rf
namespace Rf
open PySem L2
/-! min(xs), max(xs), xs a list of tuples (a whole number, a list of whole numbers) -/
def plD : D → Option (Int × List Int)
  | .obj o .tup [.int i, .obj o' .lst ds] => if o ≠ .con ∧ o' ≠ .con ∧ (o = .own ∨ o' = .shr) then (intsD ds).map fun l => (i, l) else none
  | _ => none
def plsD : List D → Option (List (Int × List Int))
  | [] => some []
  | d :: ds => (plD d).bind fun x => (plsD ds).map fun xs => x :: xs
def plT (k : Int × List Int) : D := .obj .shr .tup [.int k.1, .obj .shr .lst (k.2.map D.int)]
def plP (k : Int × List Int) : PyData := .tuple [.int k.1, .list (k.2.map .int)]
def lessL (x y : Int × List Int) : Bool := PySem.W.dataLt (plP x) (plP y)
def minL (a : Int × List Int) (l : List (Int × List Int)) : Int × List Int := l.foldl (fun a y => if lessL y a then y else a) a
def maxL (a : Int × List Int) (l : List (Int × List Int)) : Int × List Int := l.foldl (fun a y => if lessL a y then y else a) a
def bMinL : List D → Option D
  | [.obj o .lst ds] => (plsD ds).bind fun ks => match ks with
    | [] => none
    | k :: ks => some (plT (minL k ks))
  | _ => none
def bMaxL : List D → Option D
  | [.obj o .lst ds] => (plsD ds).bind fun ks => match ks with
    | [] => none
    | k :: ks => some (plT (maxL k ks))
  | _ => none
@[simp] theorem bMinL_l (o : Ow) (ds : List D) : bMinL [.obj o .lst ds] = (plsD ds).bind fun ks => match ks with
    | [] => none
    | k :: ks => some (plT (minL k ks)) := rfl
@[simp] theorem bMaxL_l (o : Ow) (ds : List D) : bMaxL [.obj o .lst ds] = (plsD ds).bind fun ks => match ks with
    | [] => none
    | k :: ks => some (plT (maxL k ks)) := rfl
theorem minL_D (a : Int × List Int) (l : List (Int × List Int)) : PySem.W.minD (plP a) (l.map plP) = plP (minL a l) := by
  unfold PySem.W.minD minL
  induction l generalizing a with
  | nil => rfl
  | cons b l ih =>
    rw [List.map_cons, List.foldl_cons, List.foldl_cons, ← ih]
    congr 1
    unfold lessL
    split <;> rfl
theorem maxL_D (a : Int × List Int) (l : List (Int × List Int)) : PySem.W.maxD (plP a) (l.map plP) = plP (maxL a l) := by
  unfold PySem.W.maxD maxL
  induction l generalizing a with
  | nil => rfl
  | cons b l ih =>
    rw [List.map_cons, List.foldl_cons, List.foldl_cons, ← ih]
    congr 1
    unfold lessL
    split <;> rfl
theorem plP_inj {a b : Int × List Int} (h : plP a = plP b) : a = b := by
  unfold plP at h
  injection h with h
  injection h with h1 h2
  injection h1 with h1
  injection h2 with h2 _
  injection h2 with h2
  have : a.2 = b.2 := by
    have key : ∀ l m : List Int, l.map PyData.int = m.map PyData.int → l = m := by
      intro l
      induction l with
      | nil => intro m e; cases m with
        | nil => rfl
        | cons b m => cases e
      | cons a l ih => intro m e; cases m with
        | nil => cases e
        | cons b m =>
          rw [List.map_cons, List.map_cons] at e
          injection e with e1 e2
          injection e1 with e1
          rw [e1, ih m e2]
    exact key _ _ h2
  exact Prod.ext h1 this
theorem depth_plP (k : Int × List Int) : (plP k).depth ≤ 2 := by
  have : ∀ l : List Int, PyData.depthAll (l.map .int) = 0 := by
    intro l
    induction l with
    | nil => simp [PyData.depthAll]
    | cons a l ih => rw [List.map_cons]; simp [PyData.depthAll, PyData.depth, ih]
  unfold plP
  simp [PyData.depth, PyData.depthAll, this]
theorem depth_pls (l : List (Int × List Int)) : PyData.depthAll (l.map plP) ≤ 2 := by
  induction l with
  | nil => simp [PyData.depthAll]
  | cons a l ih =>
    rw [List.map_cons]
    have := depth_plP a
    simp only [PyData.depthAll]
    omega
theorem alike_pls (l : List (Int × List Int)) : PySem.W.AlikeAll (l.map plP) := by
  have ai : ∀ l m : List Int, PySem.W.alikeAll (l.map .int) (m.map .int) = true := by
    intro l
    induction l with
    | nil => intro m; simp [PySem.W.alikeAll]
    | cons a l ih => intro m; cases m with
      | nil => simp [PySem.W.alikeAll]
      | cons b m => simp [PySem.W.alikeAll, PySem.W.alike, ih]
  refine ⟨fun x hx y hy => ?_, fun x hx h => ?_⟩
  · obtain ⟨i, _, rfl⟩ := List.mem_map.mp hx
    obtain ⟨j, _, rfl⟩ := List.mem_map.mp hy
    simp [plP, PySem.W.alike, PySem.W.alikeAll, ai]
  · obtain ⟨i, _, rfl⟩ := List.mem_map.mp hx
    cases h
def rBest (K : PySem.W.Frag) (best : PyData → List PyData → PyData) : List V → Hp → VK → Prop := fun vs H Q => ∃ (a : Addr) (us : List V) (x : PyData) (xs : List PyData), vs = [V.ref a] ∧ SqL K H a us ∧ DpAll K H us (x :: xs) ∧ PySem.W.AlikeAll (x :: xs) ∧ PyData.depthAll (x :: xs) ≤ 60 ∧
  ∀ (i : Nat) (u : V), us[i]? = some u → (x :: xs)[i]? = some (best x xs) → Q u H
section
variable {X : Cx}
theorem vals_at {vs : List V} {us : List Value} (r : Vals vs us) {i : Nat} {u : Value} (h : us[i]? = some u) : ∃ v, vs[i]? = some v ∧ RelV v u := by
  induction r generalizing i with
  | nil => simp at h
  | cons a b ih => cases i with
    | zero => cases h; exact ⟨_, rfl, a⟩
    | succ i => exact ih (by simpa using h)
theorem readsAll_get {h : Heap} : ∀ {vs : List Value} {xs : List PyData} {as : List Addr}, ReadsAll h vs xs as → ∀ {i : Nat} {v : Value}, vs[i]? = some v → ∃ d bs, xs[i]? = some d ∧ Reads h v d bs
  | _, _, _, .nil, _, _, hv => by simp at hv
  | _, _, _, .cons r rs, 0, v, hv => by cases hv; exact ⟨_, _, rfl, r⟩
  | _, _, _, .cons r rs, i + 1, v, hv => by
    obtain ⟨d, bs, h1, h2⟩ := readsAll_get rs (i := i) (by simpa using hv)
    exact ⟨d, bs, by simpa using h1, h2⟩
theorem cr_minB (hc : X.calm = true) (hu : X.A.units + 64 < cLine) : CallR X (.builtin "min") (rBest X.K PySem.W.minD) := by
  intro pins s σ H vs us Q I r h
  obtain ⟨a, ws, x, xs, rfl, hs, hd, ha, hdp, q⟩ := h
  obtain ⟨its, rv, hl, _⟩ := I.list hs
  obtain rfl := Vals.ref1 r
  obtain ⟨as, hr⟩ := Dp.readsAll I _ _ _ hd rv
  refine PySem.W.min_list_data (I.ok.hd hc) hl.isList (by simpa using hr) ha (by omega) (fun i v h' tk bs hi hm hk => ?_)
  have hi : its[i]? = some v := by simpa using hi
  obtain ⟨u, hu1, hu2⟩ := vals_at rv hi
  obtain ⟨d, bs2, hd1, hd2⟩ := readsAll_get hr hi
  have e := (PyProof.Rows.reads_det (fun b o e _ => hk b o e) hd2 hm).1
  exact ⟨u, H, I.kept hk, hu2, q i u hu1 (by rw [hd1, e])⟩
theorem cr_maxB (hc : X.calm = true) (hu : X.A.units + 64 < cLine) : CallR X (.builtin "max") (rBest X.K PySem.W.maxD) := by
  intro pins s σ H vs us Q I r h
  obtain ⟨a, ws, x, xs, rfl, hs, hd, ha, hdp, q⟩ := h
  obtain ⟨its, rv, hl, _⟩ := I.list hs
  obtain rfl := Vals.ref1 r
  obtain ⟨as, hr⟩ := Dp.readsAll I _ _ _ hd rv
  refine PySem.W.max_list_data (I.ok.hd hc) hl.isList (by simpa using hr) ha (by omega) (fun i v h' tk bs hi hm hk => ?_)
  have hi : its[i]? = some v := by simpa using hi
  obtain ⟨u, hu1, hu2⟩ := vals_at rv hi
  obtain ⟨d, bs2, hd1, hd2⟩ := readsAll_get hr hi
  have e := (PyProof.Rows.reads_det (fun b o e _ => hk b o e) hd2 hm).1
  exact ⟨u, H, I.kept hk, hu2, q i u hu1 (by rw [hd1, e])⟩
end
section
variable {K : PySem.W.Frag} {cl : Nat → Addr} {F H : Hp} {ι : Type} {rd : ι → D} {rv : ι → V}
theorem pl_of {d : D} {k : Int × List Int} (e : plD d = some k) : frz d = plT k := by
  unfold plD at e
  split at e
  · rename_i o i o' ds
    split at e
    · rename_i ho
      cases ei : intsD ds with
      | none => rw [ei] at e; cases e
      | some l =>
        rw [ei] at e
        cases e
        have := ints_some ei
        subst this
        have f1 := frzs_map_i l
        cases o with
        | con => exact absurd rfl ho.1
        | own => cases o' with
          | con => exact absurd rfl ho.2.1
          | own => simp [frz, frzs, plT, f1]
          | shr => simp [frz, frzs, plT, f1]
        | shr => cases o' with
          | con => exact absurd rfl ho.2.1
          | own => have := ho.2.2; simp at this
          | shr => simp [frz, plT]
    · cases e
  · cases e
theorem pds_i (l : List Int) : pds (l.map D.int) = some (l.map PyData.int) := by
  induction l with
  | nil => rfl
  | cons a l ih => rw [List.map_cons]; simp [pds, Rf.pd, ih]
theorem pd_plT (k : Int × List Int) : Rf.pd (plT k) = some (plP k) := by
  unfold plT plP
  simp [Rf.pd, pds, pds_i]
theorem pls_of : ∀ {ds : List D} {ks : List (Int × List Int)}, plsD ds = some ks → frzs ds = ks.map plT
  | [], ks, e => by cases e; rfl
  | d :: ds, ks, e => by
    unfold plsD at e
    cases ed : plD d with
    | none => rw [ed] at e; cases e
    | some k =>
      cases es : plsD ds with
      | none => rw [ed, es] at e; cases e
      | some ks' =>
        rw [ed, es] at e
        cases e
        show frz d :: frzs ds = _
        rw [pl_of ed, pls_of es]
        rfl
theorem pds_pls (ks : List (Int × List Int)) : pds (ks.map plT) = some (ks.map plP) := by
  induction ks with
  | nil => rfl
  | cons a l ih => rw [List.map_cons, List.map_cons]; simp [pds, pd_plT, ih]
theorem best_cas {best : PyData → List PyData → PyData} {bl : Int × List Int → List (Int × List Int) → Int × List Int} (hb : ∀ a l, best (plP a) (l.map plP) = plP (bl a l)) {op : List D → Option D} (hop : ∀ xs z, op xs = some z → ∃ o ds k ks, xs = [.obj o .lst ds] ∧ plsD ds = some (k :: ks) ∧ z = plT (bl k ks)) : CaS K cl (rBest K best) op := fun rd rv F H xs z vs Q e hl w k => by
  obtain ⟨o, ds, x, ks, rfl, es, rfl⟩ := hop _ _ e
  obtain ⟨v, rfl⟩ : ∃ v, vs = [v] := by
    cases vs with
    | nil => cases hl
    | cons v vs => cases vs with
      | nil => exact ⟨v, rfl⟩
      | cons u vs => simp at hl
  obtain ⟨F', a, us, rfl, _, w2, rs, kr, _⟩ := w.top1.openTop
  have hf := pls_of es
  rw [hf] at rs
  have dp := dps_of w2.ex _ rs (pds_pls (x :: ks))
  have hdp := depth_pls (x :: ks)
  refine ⟨a, us, plP x, ks.map plP, rfl, kr, dp, alike_pls (x :: ks), by rw [List.map_cons] at hdp; omega, fun i u hi hx => ?_⟩
  rw [hb] at hx
  have hx : ((x :: ks).map plP)[i]? = some (plP (bl x ks)) := hx
  rw [List.getElem?_map] at hx
  cases hk : (x :: ks)[i]? with
  | none => rw [hk] at hx; cases hx
  | some y =>
    rw [hk] at hx
    have hy : y = bl x ks := plP_inj (Option.some.inj hx)
    obtain ⟨u', hu', rep⟩ := rs.at0 (i := i) (d := plT y) (by rw [List.getElem?_map, hk]; rfl)
    rw [hi] at hu'
    cases hu'
    rw [hy] at rep
    exact k F' H u (w2.dup0 rep)
end
theorem min_op (xs : List D) (z : D) (h : bMinL xs = some z) : ∃ o ds k ks, xs = [.obj o .lst ds] ∧ plsD ds = some (k :: ks) ∧ z = plT (minL k ks) := by
  unfold bMinL at h
  split at h
  · rename_i o ds
    cases e : plsD ds with
    | none => rw [e] at h; cases h
    | some ks =>
      rw [e] at h
      cases ks with
      | nil => cases h
      | cons k ks => cases h; exact ⟨o, ds, k, ks, rfl, e, rfl⟩
  · cases h
theorem max_op (xs : List D) (z : D) (h : bMaxL xs = some z) : ∃ o ds k ks, xs = [.obj o .lst ds] ∧ plsD ds = some (k :: ks) ∧ z = plT (maxL k ks) := by
  unfold bMaxL at h
  split at h
  · rename_i o ds
    cases e : plsD ds with
    | none => rw [e] at h; cases h
    | some ks =>
      rw [e] at h
      cases ks with
      | nil => cases h
      | cons k ks => cases h; exact ⟨o, ds, k, ks, rfl, e, rfl⟩
  · cases h
section
variable {X : Cx} {cl : Nat → Addr}
theorem co_minL (hc : X.calm = true) (hu : X.A.units + 64 < cLine) : CaO X cl (.builtin "min") bMinL := ⟨_, cr_minB hc hu, best_cas minL_D min_op⟩
theorem co_maxL (hc : X.calm = true) (hu : X.A.units + 64 < cLine) : CaO X cl (.builtin "max") bMaxL := ⟨_, cr_maxB hc hu, best_cas maxL_D max_op⟩
end
end Rf
namespace Rf
open PySem L2
/-! o.path.f += s, whole numbers -/
def dAugF (i : Nat) (ps : List Stp) (cs : List Nat) (a : Str) (s : SF) : M → R Fl := fun m => match resolve m (rd m i) ps, s m with
  | some (p, .obj .own (.ins c ns) ds), some (.int k) => match ns.findIdx? (fun x => decide (x = a)) with
    | some j => match ds[j]? with
      | some (.int n) => if down (rd m i) p = true ∧ cs.contains c = true ∧ ns.length < 1000 ∧ ns.length = ds.length then .ok .nx (wr m i (dput (rd m i) p (.obj .own (.ins c ns) (ds.set j (.int (n + k)))))) else .no
      | _ => .no
    | none => .no
  | _, _ => .no
@[simp] theorem dAugF_ap (i : Nat) (ps : List Stp) (cs : List Nat) (a : Str) (s : SF) (m : M) : dAugF i ps cs a s m = (match resolve m (rd m i) ps, s m with
  | some (p, .obj .own (.ins c ns) ds), some (.int k) => match ns.findIdx? (fun x => decide (x = a)) with
    | some j => match ds[j]? with
      | some (.int n) => if down (rd m i) p = true ∧ cs.contains c = true ∧ ns.length < 1000 ∧ ns.length = ds.length then .ok .nx (wr m i (dput (rd m i) p (.obj .own (.ins c ns) (ds.set j (.int (n + k)))))) else .no
      | _ => .no
    | none => .no
  | _, _ => .no) := rfl
section
variable {X : Cx} {cl : Nat → Addr} {xc : XC} {W : WX} {e o : Expr} {pos p1 : Pos} {i : Nat} {ps : List Stp} {s : SF} {a : Str} {cs : List Nat}
theorem st_augF (ho : PEl X cl o i ps) (he : PEs X cl e s) (hc : ∀ c, cs.contains c = true → Cls X.K (cl c) ∧ NoAttr X.K (cl c) a) :
    PSd X cl xc W (.AugAssign (.Attribute o a p1) .Add e pos) (dAugF i ps cs a s) :=
  ps_imp (ps_fldaug ho he in_add) fun Dn σ H hq => by
    obtain ⟨φ, fd, fv, F, m, lv, r, q⟩ := tS_post.mp hq
    unfold dAugF at q
    split at q
    case h_2 => exact q.elim
    rename_i p c ns ds k er es
    split at q
    case h_2 => exact q.elim
    rename_i j ej
    split at q
    case h_2 => exact q.elim
    rename_i n en
    split at q
    case isFalse => exact q.elim
    rename_i h4
    obtain ⟨hdn, hcs, hz, hnl⟩ := h4
    have hg := resolve_get er
    have hi0 := vat_of r hg (by simp)
    obtain ⟨A, vs, u, f', ⟨fps0, rs0⟩, va, ha', hu, hlen, rv, put⟩ := r.dummy.mutAt2 hi0 hg hdn
    obtain ⟨dx, hu, hl2⟩ := hu
    subst hu
    obtain ⟨w1, f1, fm, f2, hw1, ry, efp, back⟩ := Reps.at rs0 en
    obtain ⟨rfl, _⟩ := ry
    have hj : j < ds.length := (List.getElem?_eq_some_iff.mp en).1
    refine ⟨φ, fd, fv, F, m, lv, r, hi0, p, _, _, er, va, A, cl c, dx, _, _, rfl, ha', (hc c hcs).1, (hc c hcs).2, lookup_zip ej hw1 hl2, φ, fd, fv, F, m, lv, r, _, es, rfl, fun v hv => ?_⟩
    have hv : v = .int k := hv
    subst hv
    refine ⟨n, k, rfl, rfl, dx, _, ha', by rw [List.length_zip]; omega, ?_⟩
    rw [putF_at ej hl2]
    refine q F _ σ (put _ (.ins c ns) (ds.set j (.int (n + k))) (vs.set j (.int (n + k))) ⟨dx, rfl, by simp [hl2]⟩ fun fps rs nd => ?_)
    have r0 : Rep X.K cl F H (.int (n + k)) (.int (n + k)) [] := by exact ⟨rfl, rfl⟩
    obtain ⟨fq, h1, h2, h3⟩ := rs.set1 hj r0 (by simpa using (List.nodup_append.mp nd).1)
    exact ⟨fq, h1, h2, fun b hb => by have := h3 b hb; simp at this; simp [this]⟩
end
end Rf
namespace Rf
open PySem L2
/-! a < b < c of what is reckoned -/
def dChn (o o' : D → D → Option D) (f g h : M → R D) : M → R D := fun m => (f m).bind fun x m => (g m).bind fun y m => match o x y with
  | some (.bl true) => (h m).bind fun w m => ofO (o' y w) m
  | some (.bl false) => .ok (.bl false) m
  | _ => .no
@[simp] theorem dChn_ap (o o' : D → D → Option D) (f g h : M → R D) (m : M) : dChn o o' f g h m = ((f m).bind fun x m => (g m).bind fun y m => match o x y with
  | some (.bl true) => (h m).bind fun w m => ofO (o' y w) m
  | some (.bl false) => .ok (.bl false) m
  | _ => .no) := rfl
section
variable {X : Cx} {cl : Nat → Addr} {xc : XC} {W : WX} {a b c : Expr} {f g h : M → R D} {pos : Pos}
theorem d_chn {op op' : CmpOp} {o o' : D → D → Option D} (hc1 : CmpR X op o) (hc2 : CmpR X op' o') (ha : PEd X cl xc W a f) (hb : PEd X cl xc W b g) (hc : PEd X cl xc W c h) (hm : lastMarks [op, op'] [b, c] = false := by kernel_rfl) :
    PEd X cl xc W (.Compare a [op, op'] [b, c] pos) (dChn o o' f g h) := by
  obtain ⟨⟨r, h1, h2⟩, h3⟩ := hc1
  obtain ⟨⟨r', h1', h2'⟩, h3'⟩ := hc2
  exact pe_imp (pe_chain h1 h1' ha hb hc hm) fun σ H Q hq => tE_bind hq fun φ fd fv F H1 m lv x d r1 q => tE_next r1 q fun F2 H2 m2 y d2 r2 q2 => by
    have s2 : ∃ fx, Rep X.K cl F2 H2 d2 y fx := r2.wf.toTop.topRep
    have s1 : ∃ fx, Rep X.K cl F2 H2 d x fx := r2.pop.wf.toTop.topRep
    obtain ⟨_, s2⟩ := s2
    obtain ⟨_, s1⟩ := s1
    cases e : o d d2 with
    | none => simp only [e] at q2
    | some z =>
      simp only [e] at q2
      obtain ⟨k1, k2⟩ := h3 d d2 z e
      have hx := s1.scal k1
      have hy := s2.scal k2
      refine (h2 d d2 z x y H2 _ e hx hy).2 fun v hv => ?_
      cases z with
      | bl kb =>
        have hvr := hv.rep (K := X.K) (cl := cl) (F := F2) (H := H2)
        have hv : v = .bl kb := hv
        subst hv
        refine ⟨kb, rfl, ?_⟩
        cases kb with
        | false =>
          rw [if_neg (by decide)]
          simp only at q2
          exact q2 F2 H2 _ (r2.pop.pop.push (r2.pop.pop.wf.dup0 hvr))
        | true =>
          rw [if_pos rfl]
          simp only at q2
          have r3 : Rel X.K cl (psh d2 fd) (psh y fv) F2 H2 σ m2 lv := r2.pop.pop.push (r2.pop.pop.wf.dup0 hy.rep)
          refine tE_next r3 q2 fun F4 H4 m4 u d4 r4 q4 => ?_
          unfold ofO at q4
          cases e4 : o' d2 d4 with
          | none => simp only [e4] at q4
          | some z4 =>
            simp only [e4] at q4
            have s4 : ∃ fx, Rep X.K cl F4 H4 d4 u fx := r4.wf.toTop.topRep
            obtain ⟨_, s4⟩ := s4
            obtain ⟨k3, k4⟩ := h3' d2 d4 z4 e4
            exact (h2' d2 d4 z4 y u H4 _ e4 hy (s4.scal k4)).2 fun v hv => q4 F4 H4 v (r4.pop.pop.push (r4.pop.pop.wf.dup0 hv.rep))
      | _ => simp only at q2
end
end Rf
namespace Rf
open PySem L2
/-! dicts with ints and texts as keys -/
def keyOf : D → Option Key
  | .int i => some (.inl i)
  | .str s => some (.inr s)
  | _ => none
def getL {α κ : Type} [DecidableEq κ] : List κ → List α → κ → Option α
  | k :: ks, d :: ds, x => if k = x then some d else getL ks ds x
  | _, _, _ => none
/-- the place of a key -/
def posL {κ : Type} [DecidableEq κ] : List κ → κ → Option Nat
  | [], _ => none
  | k :: ks, x => if k = x then some 0 else (posL ks x).map (· + 1)
section
variable {κ : Type} [DecidableEq κ]
theorem getL_val : ∀ (ks : List κ) (vs : List V) (k : κ), valV (ks.zip vs) k = getL ks vs k
  | [], vs, k => by simp [getL, valV]
  | k0 :: ks, [], k => by simp [getL, valV]
  | k0 :: ks, v :: vs, k => by
    rw [List.zip_cons_cons]
    unfold getL
    by_cases h : k0 = k
    · rw [valV_pos h, if_pos h]
    · rw [valV_neg h, if_neg h, getL_val ks vs k]
theorem getL_none {α β : Type} : ∀ (ks : List κ) (ds : List α) (vs : List β) (k : κ), ds.length = vs.length → getL ks ds k = none → getL ks vs k = none
  | [], _, _, _, _, _ => by simp [getL]
  | k0 :: ks, [], [], k, _, _ => by simp [getL]
  | k0 :: ks, d :: ds, [], k, h, _ => by simp at h
  | k0 :: ks, [], v :: vs, k, h, _ => by simp at h
  | k0 :: ks, d :: ds, v :: vs, k, h, e => by
    unfold getL at e ⊢
    by_cases q : k0 = k
    · rw [if_pos q] at e; cases e
    · rw [if_neg q] at e ⊢
      exact getL_none ks ds vs k (by simpa using h) e
theorem getL_each {K : PySem.W.Frag} {cl : Nat → Addr} {F H : Hp} : ∀ (ks : List κ) {ds : List D} {vs : List V} (k : κ) {d : D}, Each K cl F H ds vs → getL ks ds k = some d → ∃ v fx, getL ks vs k = some v ∧ Rep K cl F H d v fx
  | [], _, _, _, _, _, e => by simp [getL] at e
  | k0 :: ks, [], [], k, _, _, e => by simp [getL] at e
  | k0 :: ks, d0 :: ds, [], k, _, h, _ => h.elim
  | k0 :: ks, [], v :: vs, k, _, h, _ => h.elim
  | k0 :: ks, d0 :: ds, v :: vs, k, d, h, e => by
    obtain ⟨⟨fx, r⟩, h2⟩ := h
    unfold getL at e ⊢
    by_cases q : k0 = k
    · rw [if_pos q] at e ⊢
      cases e
      exact ⟨v, fx, rfl, r⟩
    · rw [if_neg q] at e ⊢
      exact getL_each ks k h2 e
theorem posL_none {α : Type} : ∀ (ks : List κ) (ds : List α) (k : κ), posL ks k = none → getL ks ds k = none
  | [], _, _, _ => by simp [getL]
  | k0 :: ks, [], _, _ => by simp [getL]
  | k0 :: ks, d :: ds, k, e => by
    unfold posL at e
    unfold getL
    by_cases q : k0 = k
    · rw [if_pos q] at e; cases e
    · rw [if_neg q] at e ⊢
      exact posL_none ks ds k (by simpa using e)
theorem posL_lt : ∀ (ks : List κ) (k : κ) {j : Nat}, posL ks k = some j → j < ks.length
  | [], _, _, e => by cases e
  | k0 :: ks, k, j, e => by
    unfold posL at e
    by_cases q : k0 = k
    · rw [if_pos q] at e; cases e; simp
    · rw [if_neg q] at e
      cases h : posL ks k with
      | none => rw [h] at e; cases e
      | some i => rw [h] at e; cases e; have := posL_lt ks k h; simp; omega
/-- a key stored: at its place, or behind -/
theorem putK_zip : ∀ (ks : List κ) (vs : List V) (k : κ) (v : V) {j : Nat}, ks.length = vs.length → posL ks k = some j → (ks.drop (j + 1)).contains k = false → putK (ks.zip vs) k v = ks.zip (vs.set j v) := by
  have anyf : ∀ (ks : List κ) (vs : List V) (k : κ), ks.contains k = false → (ks.zip vs).map (fun kv => if kv.1 = k then (kv.1, kv.2) else kv) = ks.zip vs := fun ks vs k _ => by
    have : (fun kv : κ × V => if kv.1 = k then (kv.1, kv.2) else kv) = id := by funext kv; simp
    rw [this, List.map_id]
  have mapf : ∀ (ks : List κ) (vs : List V) (k : κ) (v : V), ks.contains k = false → (ks.zip vs).map (fun kv => if kv.1 = k then (kv.1, v) else kv) = ks.zip vs := by
    intro ks
    induction ks with
    | nil => intro vs k v _; simp
    | cons k0 ks ih =>
      intro vs k v h
      cases vs with
      | nil => simp
      | cons v0 vs =>
        rw [List.contains_cons, Bool.or_eq_false_iff] at h
        have ne : ¬ k0 = k := fun e => by subst e; simp at h
        rw [List.zip_cons_cons, List.map_cons, ih vs k v h.2]
        simp [ne]
  have main : ∀ (ks : List κ) (vs : List V) (k : κ) (v : V) {j : Nat}, ks.length = vs.length → posL ks k = some j → (ks.drop (j + 1)).contains k = false → (ks.zip vs).map (fun kv => if kv.1 = k then (kv.1, v) else kv) = ks.zip (vs.set j v) ∧ ((ks.zip vs).any fun kv => decide (kv.1 = k)) = true := by
    intro ks
    induction ks with
    | nil => intro vs k v j _ h; cases h
    | cons k0 ks ih =>
      intro vs k v j hl h hc
      cases vs with
      | nil => simp at hl
      | cons v0 vs =>
        unfold posL at h
        by_cases q : k0 = k
        · rw [if_pos q] at h
          cases h
          rw [List.zip_cons_cons, List.map_cons, List.set_cons_zero, mapf ks vs k v (by simpa using hc)]
          simp [q]
        · rw [if_neg q] at h
          cases hp : posL ks k with
          | none => rw [hp] at h; cases h
          | some i =>
            rw [hp] at h
            cases h
            obtain ⟨h1, h2⟩ := ih vs k v (by simpa using hl) hp (by simpa using hc)
            rw [List.zip_cons_cons, List.map_cons, h1, List.set_cons_succ]
            simp [q, h2]
  intro ks vs k v j hl h hc
  obtain ⟨h1, h2⟩ := main ks vs k v hl h hc
  unfold putK
  rw [if_pos h2, h1]
theorem putK_snoc (ks : List κ) (vs : List V) (k : κ) (v : V) (hl : ks.length = vs.length) (h : posL ks k = none) : putK (ks.zip vs) k v = (ks ++ [k]).zip (vs ++ [v]) := by
  rw [putK_new v (by rw [getL_val]; exact posL_none ks vs k h), List.zip_append hl]
  rfl
end
def oGetK (x k : D) : Option D := match x with
  | .obj _ (.dic ks) ds => (keyOf k).bind fun k => (getL ks ds k).bind toSc
  | _ => none
def oInK (neg : Bool) (k x : D) : Option D := match x with
  | .obj _ (.dic ks) ds => (keyOf k).map fun k => .bl (if neg then !(getL ks ds k).isSome else (getL ks ds k).isSome)
  | _ => none
def oGet2 (x k z : D) : Option D := match x with
  | .obj _ (.dic ks) ds => (keyOf k).bind fun k => (toSc z).bind fun z => match getL ks ds k with
    | some d => toSc d
    | none => some z
  | _ => none
def sGet2 (f g h : SF) : SF := fun m => (f m).bind fun x => (g m).bind fun k => (h m).bind fun z => oGet2 x k z
/-- a store -/
def putD {κ : Type} [DecidableEq κ] (ks : List κ) (ds : List D) (k : κ) (d : D) : Option (List κ × List D) := match posL ks k with
  | some j => if (ks.drop (j + 1)).contains k then none else some (ks, ds.set j d)
  | none => some (ks ++ [k], ds ++ [d])
def dPutK (i : Nat) (ps : List Stp) (s : SF) (f : M → R D) : M → R Fl := fun m => (f m).bind fun d m => match resolve m (rd m i) ps, (s m).bind keyOf with
  | some (p, .obj .own (.dic ks) xs), some k => if down (rd m i) p = true ∧ xs.length < sizeLine ∧ ks.length = xs.length then match putD ks xs k d with
      | some (ks', xs') => .ok .nx (wr m i (dput (rd m i) p (.obj .own (.dic ks') xs')))
      | none => .no
    else .no
  | _, _ => .no
section
variable {X : Cx} {cl : Nat → Addr} {xc : XC} {W : WX} {e o i a b : Expr} {f : M → R D} {g s t u : SF} {pos apos p1 : Pos} {n0 : Nat} {ps : List Stp}
theorem d_dict : PEd X cl xc W (.Dict [] [] pos) (dC (.obj .own (.dic []) [])) :=
  pe_imp pe_dnewK fun σ H Q ⟨φ, fd, fv, F, m, lv, r, q⟩ => fun p hp => q F _ _ (r.push (r.wf.newSh (ds := []) (vs := []) (k := .dic []) ⟨rfl, rfl⟩ hp ⟨rfl, rfl⟩))
theorem key_val {k : D} {kk : Key} {v : V} (h : keyOf k = some kk) (hv : Scal k v) : v = kV kk ∧ isSc k = true := by
  cases k with
  | int i => cases h; exact ⟨hv, rfl⟩
  | str s => cases h; exact ⟨hv, rfl⟩
  | _ => cases h
theorem key_sc {k : D} {kk : Key} (h : keyOf k = some kk) : isSc k = true := by
  cases k <;> first | rfl | cases h
/-- a dict looked at -/
theorem dic_opn {F H : Hp} (ex : Ex F H) {o : Ow} {ks : List Key} {ds : List D} {v : V} {fx : List Addr} (r : Rep X.K cl F H (.obj o (.dic ks) ds) v fx) : ∃ a vs, v = .ref a ∧ Rd H a (.dK (ks.zip vs)) ∧ Each X.K cl F H ds vs := by
  obtain ⟨a, vs, hv, kr, ea, _⟩ := r.opn ex
  exact ⟨a, vs, hv, kr.1, ea⟩
theorem dic_get {F H : Hp} (ex : Ex F H) {x k : D} {v vk : V} {fx : List Addr} (r : Rep X.K cl F H x v fx) (hk : Scal k vk) {ks : List Key} {ds : List D} {o : Ow} (hx : x = .obj o (.dic ks) ds) {kk : Key} (ek : keyOf k = some kk) : ∃ a, v = .ref a ∧ match getL ks ds kk with
    | some d => ∃ w fw, DGet H a vk (some w) ∧ Rep X.K cl F H d w fw
    | none => DGet H a vk none := by
  subst hx
  obtain ⟨a, vs, rfl, hr, ea⟩ := dic_opn ex r
  obtain ⟨rfl, _⟩ := key_val ek hk
  refine ⟨a, rfl, ?_⟩
  cases e : getL ks ds kk with
  | some d =>
    obtain ⟨w, fw, e2, rw'⟩ := getL_each ks kk ea e
    exact ⟨w, fw, .inl ⟨_, kk, hr, rfl, by rw [getL_val, e2]⟩, rw'⟩
  | none => exact .inl ⟨_, kk, hr, rfl, by rw [getL_val, getL_none ks ds vs kk ea.len.symm e]⟩
theorem s_dget (hu : X.A.units + 65 < cLine) (ho : PEp X cl o g) (hi : PEs X cl i t) (hs : NoSl i := by exact fun _ _ => by kernel_rfl) : PEs X cl (.Subscript o i pos) (sBin oGetK g t) :=
  pe_imp (pe_dget (by omega) ho hi hs) fun σ H Q ⟨φ, fd, fv, F, m, lv, r, d, ed, hd, q⟩ => by
    obtain ⟨x, k, ex, ek, ez⟩ := sBin_some ed
    unfold oGetK at ez
    cases x with
    | obj ow kd ds =>
      cases kd with
      | dic ks =>
        simp only at ez
        cases hk : keyOf k with
        | none => rw [hk] at ez; cases ez
        | some kk =>
          rw [hk, Option.bind_some] at ez
          cases hg : getL ks ds kk with
          | none => rw [hg] at ez; cases ez
          | some d' =>
            rw [hg, Option.bind_some] at ez
            obtain ⟨rfl, hsc⟩ := toSc_some ez
            refine ⟨φ, fd, fv, F, m, lv, r, _, ex, fun v fx rx => ⟨φ, fd, fv, F, m, lv, r, _, ek, key_sc hk, fun vk hvk => ?_⟩⟩
            obtain ⟨a, rfl, h⟩ := dic_get r.wf.ex rx hvk rfl hk
            rw [hg] at h
            obtain ⟨w, fw, h1, h2⟩ := h
            exact ⟨a, w, rfl, h1, q w (h2.scal hsc)⟩
      | _ => cases ez
    | _ => cases ez
theorem s_din (hu : X.A.units + 65 < cLine) (hi : PEs X cl i t) (ho : PEp X cl o g) (hm : behindInMarks .In o = false := by kernel_rfl) : PEs X cl (.Compare i [.In] [o] pos) (sBin (oInK false) t g) :=
  pe_imp (pe_cmp (pc_din (by omega) hi ho) hm) fun σ H Q ⟨φ, fd, fv, F, m, lv, r, d, ed, hd, q⟩ => by
    obtain ⟨k, x, ek, ex, ez⟩ := sBin_some ed
    unfold oInK at ez
    cases x with
    | obj ow kd ds =>
      cases kd with
      | dic ks =>
        simp only at ez
        cases hk : keyOf k with
        | none => rw [hk] at ez; cases ez
        | some kk =>
          simp only [hk, Option.map_some, Option.some.injEq] at ez
          subst ez
          refine ⟨φ, fd, fv, F, m, lv, r, _, ek, key_sc hk, fun vk hvk => ⟨φ, fd, fv, F, m, lv, r, _, ex, fun v fx rx => ?_⟩⟩
          obtain ⟨a, rfl, h⟩ := dic_get r.wf.ex rx hvk rfl hk
          cases hg : getL ks ds kk with
          | none => rw [hg] at h; exact ⟨a, none, rfl, h, q _ (by rw [hg]; rfl)⟩
          | some d' =>
            rw [hg] at h
            obtain ⟨w, fw, h1, h2⟩ := h
            exact ⟨a, some w, rfl, h1, q _ (by rw [hg]; rfl)⟩
      | _ => cases ez
    | _ => cases ez
theorem s_dnin (hu : X.A.units + 65 < cLine) (hi : PEs X cl i t) (ho : PEp X cl o g) (hm : behindInMarks .NotIn o = false := by kernel_rfl) : PEs X cl (.Compare i [.NotIn] [o] pos) (sBin (oInK true) t g) :=
  pe_imp (pe_cmp (pc_dnotin (by omega) hi ho) hm) fun σ H Q ⟨φ, fd, fv, F, m, lv, r, d, ed, hd, q⟩ => by
    obtain ⟨k, x, ek, ex, ez⟩ := sBin_some ed
    unfold oInK at ez
    cases x with
    | obj ow kd ds =>
      cases kd with
      | dic ks =>
        simp only at ez
        cases hk : keyOf k with
        | none => rw [hk] at ez; cases ez
        | some kk =>
          simp only [hk, Option.map_some, Option.some.injEq] at ez
          subst ez
          refine ⟨φ, fd, fv, F, m, lv, r, _, ek, key_sc hk, fun vk hvk => ⟨φ, fd, fv, F, m, lv, r, _, ex, fun v fx rx => ?_⟩⟩
          obtain ⟨a, rfl, h⟩ := dic_get r.wf.ex rx hvk rfl hk
          cases hg : getL ks ds kk with
          | none => rw [hg] at h; exact ⟨a, none, rfl, h, q _ (by rw [hg]; rfl)⟩
          | some d' =>
            rw [hg] at h
            obtain ⟨w, fw, h1, h2⟩ := h
            exact ⟨a, some w, rfl, h1, q _ (by rw [hg]; rfl)⟩
      | _ => cases ez
    | _ => cases ez
theorem s_dget2 (hu : X.A.units + 65 < cLine) (ho : PEp X cl o g) (ha : PEs X cl a t) (hb : PEs X cl b u) (m2 : M2 X o "get" apos a b pos := by exact ⟨by kernel_rfl, by kernel_rfl, by kernel_rfl, by kernel_rfl⟩) : PEs X cl (.Call (.Attribute o "get" apos) [a, b] [] pos) (sGet2 g t u) :=
  pe_imp (pe_dget2 (by omega) ho ha hb m2) fun σ H Q ⟨φ, fd, fv, F, m, lv, r, d, ed, hd, q⟩ => by
    unfold sGet2 at ed
    cases ex : g m with
    | none => rw [ex] at ed; cases ed
    | some x =>
      cases ek : t m with
      | none => rw [ex, ek] at ed; cases ed
      | some k =>
        cases ez : u m with
        | none => rw [ex, ek, ez] at ed; cases ed
        | some z =>
          rw [ex, ek, ez] at ed
          simp only [Option.bind_some] at ed
          unfold oGet2 at ed
          cases x with
          | obj ow kd ds =>
            cases kd with
            | dic ks =>
              simp only at ed
              cases hk : keyOf k with
              | none => rw [hk] at ed; cases ed
              | some kk =>
                rw [hk, Option.bind_some] at ed
                obtain ⟨z', ez', ed⟩ := Option.bind_eq_some_iff.mp ed
                obtain ⟨hz', zsc⟩ := toSc_some ez'
                subst hz'
                refine ⟨φ, fd, fv, F, m, lv, r, _, ex, fun v fx rx => ?_⟩
                obtain ⟨A, vs, rfl, hr, ea⟩ := dic_opn r.wf.ex rx
                refine ⟨A, rfl, .inl ⟨_, hr⟩, φ, fd, fv, F, m, lv, r, _, ek, key_sc hk, fun vk hvk => ?_⟩
                obtain ⟨A2, hA, h⟩ := dic_get r.wf.ex rx hvk rfl hk
                cases hA
                refine ⟨φ, fd, fv, F, m, lv, r, _, ez, zsc, fun vz hvz => ?_⟩
                cases hg : getL ks ds kk with
                | some d' =>
                  rw [hg] at h ed
                  obtain ⟨w, fw, h1, h2⟩ := h
                  obtain ⟨rfl, hsc⟩ := toSc_some ed
                  exact ⟨some w, h1, q w (h2.scal hsc)⟩
                | none =>
                  rw [hg] at h ed
                  cases ed
                  exact ⟨none, h, q vz hvz⟩
            | _ => cases ed
          | _ => cases ed

/-- d[s] = e -/
theorem st_setK {p2 : Pos} (hu : X.A.units + 65 < cLine) (ho : PEl X cl o n0 ps) (hi : PEs X cl i t) (he : PEd X cl xc W e f) (hs : swapsWith e (some (.Subscript o i p1)) pos.line X.env = pure false := by kernel_rfl) :
    PSd X cl xc W (.Assign [.Subscript o i p1] e pos) (dPutK n0 ps t f) :=
  ps_imp (ps_dput (by omega) ho hi he hs) fun Dn σ H hq => tS_E hq fun φ fd fv F H1 m lv x d r q => by
    split at q
    · rename_i p ks xs k er ek
      split at q
      · rename_i h4
        obtain ⟨hdn, hz, hkl⟩ := h4
        obtain ⟨kd, ekd, ekk⟩ := Option.bind_eq_some_iff.mp ek
        have hg := resolve_get er
        have hi0 := vat_of r hg (by simp)
        obtain ⟨A, vs, u, f', va, ha', hu2, hlen, rv, put⟩ := r.mutAt hi0 hg hdn
        obtain ⟨hu2, hl2⟩ := hu2
        subst hu2
        refine ⟨φ, fd, fv, F, m, lv, r.pop, hi0, p, _, _, er, va, φ, fd, fv, F, m, lv, r.pop, kd, ekd, key_sc ekk, fun vk hvk => ?_⟩
        obtain ⟨rfl, _⟩ := key_val ekk hvk
        refine ⟨A, _, rfl, DPut.k ha' (by rw [List.length_zip]; omega), ?_⟩
        unfold putD at q
        cases ej : posL ks k with
        | some j =>
          simp only [ej] at q
          split at q
          · rename_i heq
            split at heq
            · cases heq
            · rename_i hc
              cases heq
              have hj : j < xs.length := by have := posL_lt ks k ej; omega
              rw [putK_zip ks vs k x hl2 ej (Bool.eq_false_iff.mpr hc)]
              exact q F _ σ (put _ (.dic ks) (xs.set j d) (vs.set j x) ⟨rfl, by simp [hl2]⟩ fun fps rs nd => rs.set1 hj rv nd)
          · exact q.elim
        | none =>
          simp only [ej] at q
          rw [putK_snoc ks vs k x hl2 ej]
          exact q F _ σ (put _ (.dic (ks ++ [k])) (xs ++ [d]) (vs ++ [x]) ⟨rfl, by simp [hl2]⟩ fun fps rs nd => ⟨fps ++ f', rs.app (Reps.one rv), nd, fun b h => h⟩)
      · exact q.elim
    · exact q.elim
end
end Rf
namespace Rf
open PySem L2
/-! dicts with tuples as keys, held by names -/
def keysOf : List D → Option (List Key)
  | [] => some []
  | d :: ds => (keyOf d).bind fun k => (keysOf ds).map fun ks => k :: ks
def tupK : D → Option (List Key)
  | .obj o .tup ds => if o ≠ .con then keysOf ds else none
  | _ => none
def isDit : D → Bool
  | .obj _ (.dit _) _ => true
  | _ => false
def getT (i : Nat) (k : D) (m : M) : R D := match rd m i with
  | .obj _ (.dit ks) ds => match (tupK k).bind fun kk => (getL ks ds kk).bind toSc with
    | some d => .ok d m
    | none => .no
  | _ => .no
def dGetT (i : Nat) (g : M → R D) : M → R D := fun m => if isDit (rd m i) then (g m).bind (getT i) else .no
@[simp] theorem dGetT_ap (i : Nat) (g : M → R D) (m : M) : dGetT i g m = if isDit (rd m i) then (g m).bind (getT i) else .no := rfl
section
variable {K : PySem.W.Frag} {cl : Nat → Addr} {F H : Hp}
theorem keys_each : ∀ {ds : List D} {ks : List Key} {vs : List V}, keysOf ds = some ks → Each K cl F H ds vs → vs = ks.map kV
  | [], ks, [], e, _ => by cases e; rfl
  | [], _, _ :: _, _, h => h.elim
  | _ :: _, _, [], _, h => h.elim
  | d :: ds, ks, v :: vs, e, h => by
    unfold keysOf at e
    cases ed : keyOf d with
    | none => rw [ed] at e; cases e
    | some k =>
      cases es : keysOf ds with
      | none => rw [ed, es] at e; cases e
      | some ks' =>
        rw [ed, es] at e
        cases e
        obtain ⟨⟨fx, r⟩, h2⟩ := h
        have e1 := (key_val ed (r.scal (key_sc ed))).1
        rw [e1, keys_each es h2]
        rfl
theorem tup_key (ex : Ex F H) {d : D} {v : V} {fx : List Addr} {kk : List Key} (r : Rep K cl F H d v fx) (e : tupK d = some kk) : ∃ b, v = .ref b ∧ H b = some (.tup (kk.map kV)) := by
  unfold tupK at e
  split at e
  · rename_i o ds
    split at e
    · rename_i ho
      obtain ⟨a, vs, rfl, _, ea, hm⟩ := r.opn ex
      obtain ⟨u, hu, hk⟩ := hm ho
      have hk : u = .tup vs := hk
      subst hk
      rw [keys_each e ea] at hu
      exact ⟨a, rfl, hu⟩
    · cases e
  · cases e
theorem dit_opn (ex : Ex F H) {o : Ow} {ks : List (List Key)} {ds : List D} {v : V} {fx : List Addr} (r : Rep K cl F H (.obj o (.dit ks) ds) v fx) : ∃ a vs, v = .ref a ∧ Rd H a (.dT (ks.zip vs)) ∧ Each K cl F H ds vs := by
  obtain ⟨a, vs, hv, kr, ea, _⟩ := r.opn ex
  exact ⟨a, vs, hv, kr.1, ea⟩
end
section
variable {X : Cx} {cl : Nat → Addr} {xc : XC} {W : WX} {e a : Expr} {g f : M → R D} {x : Str} {p1 pos : Pos}
theorem d_getT (i : Nat) (hu : X.A.units + 65 < cLine) (ha : PEd X cl xc W a g) (hs : NoSl a := by exact fun _ _ => by kernel_rfl) (hx : PEl X cl (.Name x p1) i [] := by exact l_v _) : PEd X cl xc W (.Subscript (.Name x p1) a pos) (dGetT i g) :=
  pe_imp (pe_dget (by omega) hx ha hs) fun σ H Q ⟨φ, fd, fv, F, m, lv, r, q⟩ => by
    unfold dGetT at q
    cases hl : isDit (rd m i) with
    | false => simp only [hl, Bool.false_eq_true, if_false] at q
    | true =>
      simp only [hl, if_true] at q
      have hi : isAbs (rd m i) = false := by
        cases hr : rd m i with
        | abs => rw [hr] at hl; cases hl
        | _ => rfl
      refine ⟨φ, fd, fv, F, m, lv, r, hi, [], _, _, rfl, rfl, φ, fd, fv, F, m, lv, r, ?_⟩
      cases e : g m with
      | no => simp only [e, R.bind] at q
      | ex c n m1 => simp only [e, R.bind] at q ⊢; exact q
      | ok k m1 =>
        simp only [e, R.bind] at q ⊢
        intro F1 H1 vk r1
        unfold getT at q
        cases hr : rd m1 i with
        | obj o kd ds =>
          cases kd <;> simp only [hr] at q
          case dit ks =>
            cases ek : tupK k with
            | none => simp only [ek, Option.bind_none] at q
            | some kk =>
              simp only [ek, Option.bind_some] at q
              cases eg : getL ks ds kk with
              | none => simp only [eg, Option.bind_none] at q
              | some d =>
                simp only [eg, Option.bind_some] at q
                cases et : toSc d with
                | none => simp only [et] at q
                | some d' =>
                  simp only [et] at q
                  obtain ⟨rfl, hsc⟩ := toSc_some et
                  have r2 := r1.pop
                  have hi1 : isAbs (rd m1 i) = false := by rw [hr]; rfl
                  obtain ⟨fx, rx⟩ := r1.wf.toTop.topRep
                  obtain ⟨b, rfl, hb⟩ := tup_key r1.wf.ex rx ek
                  obtain ⟨fp, h1, _⟩ := r2.wf.fp
                  have rep := h1 (root φ m1 i)
                  rw [(r2.at hi1).1, hr] at rep
                  obtain ⟨A, vs, ev, hrd, ea⟩ := dit_opn r2.wf.ex rep
                  have ev' : cV σ lv fv (root φ m i) = .ref A := (same_v r r2 hi hi1).trans ev
                  obtain ⟨w, fw, e2, rw'⟩ := getL_each ks kk ea eg
                  exact ⟨A, w, ev', .inr ⟨_, kk, b, hrd, rfl, hb, by rw [getL_val, e2]⟩, q F1 H1 w (r2.push (r2.wf.dup0 (rw'.scal hsc).rep))⟩
        | _ => simp only [hr] at q
end
end Rf
namespace Rf
open PySem L2
/-! d[t] = s, t a tuple, s a scalar -/
def putT (i : Nat) (d k : D) (m : M) : R Fl := match rd m i, toSc d, tupK k with
  | .obj .own (.dit ks) xs, some d, some kk => if xs.length < sizeLine ∧ ks.length = xs.length then match putD ks xs kk d with
      | some (ks', xs') => .ok .nx (wr m i (.obj .own (.dit ks') xs'))
      | none => .no
    else .no
  | _, _, _ => .no
def dPutT (i : Nat) (g f : M → R D) : M → R Fl := fun m => (f m).bind fun d m => if isDit (rd m i) then (g m).bind fun k m => putT i d k m else .no
@[simp] theorem dPutT_ap (i : Nat) (g f : M → R D) (m : M) : dPutT i g f m = ((f m).bind fun d m => if isDit (rd m i) then (g m).bind fun k m => putT i d k m else .no) := rfl
section
variable {X : Cx} {cl : Nat → Addr} {xc : XC} {W : WX} {e a : Expr} {g f : M → R D} {x : Str} {p1 p2 pos : Pos}
theorem d_dictT : PEd X cl xc W (.Dict [] [] pos) (dC (.obj .own (.dit []) [])) :=
  pe_imp pe_dnewT fun σ H Q ⟨φ, fd, fv, F, m, lv, r, q⟩ => fun p hp => q F _ _ (r.push (r.wf.newSh (ds := []) (vs := []) (k := .dit []) ⟨rfl, rfl⟩ hp ⟨rfl, rfl⟩))
theorem st_putT (i : Nat) (hu : X.A.units + 65 < cLine) (he : PEd X cl xc W e f) (ha : PEd X cl xc W a g) (hx : PEl X cl (.Name x p1) i [] := by exact l_v _) (hs : swapsWith e (some (.Subscript (.Name x p1) a p2)) pos.line X.env = pure false := by kernel_rfl) :
    PSd X cl xc W (.Assign [.Subscript (.Name x p1) a p2] e pos) (dPutT i g f) :=
  ps_imp (ps_dput (by omega) hx ha he hs) fun Dn σ H hq => tS_E hq fun φ fd fv F H1 m lv vd d r q => by
    cases hl : isDit (rd m i) with
    | false => simp only [hl, Bool.false_eq_true, if_false] at q; exact q.elim
    | true =>
      simp only [hl, if_true] at q
      have hi : isAbs (rd m i) = false := by
        cases hr : rd m i with
        | abs => rw [hr] at hl; cases hl
        | _ => rfl
      have r0 := r.pop
      refine ⟨φ, fd, fv, F, m, lv, r0, hi, [], _, _, rfl, rfl, ?_⟩
      cases hsc : isSc d with
      | false =>
        have no : toSc d = none := by cases d <;> first | rfl | cases hsc
        refine ⟨φ, fd, fv, F, m, lv, r0, ?_⟩
        cases e : g m with
        | no => simp only [e, R.bind] at q; exact q.elim
        | ex c n m1 => simp only [e, R.bind] at q ⊢; exact fun F' H' dx r' => q F' H' σ dx r'
        | ok k m1 =>
          simp only [e, R.bind] at q
          unfold putT at q
          rw [no] at q
          cases hr : rd m1 i <;> simp only [hr] at q <;> first | exact q.elim | (rename_i o kd xs; cases o <;> cases kd <;> simp only at q <;> exact q.elim)
      | true =>
        obtain ⟨fx0, rep0⟩ := r.wf.toTop.topRep
        have hvd := rep0.scal hsc
        have some' : toSc d = some d := by cases d <;> first | rfl | cases hsc
        refine ⟨φ, fd, fv, F, m, lv, r0, ?_⟩
        cases e : g m with
        | no => simp only [e, R.bind] at q; exact q.elim
        | ex c n m1 => simp only [e, R.bind] at q ⊢; exact fun F' H' dx r' => q F' H' σ dx r'
        | ok k m1 =>
          simp only [e, R.bind] at q ⊢
          intro F1 H2 vk r1
          unfold putT at q
          rw [some'] at q
          cases hr : rd m1 i with
          | obj o kd xs =>
            cases o <;> cases kd <;> simp only [hr] at q
            case own.dit ks =>
              cases ek : tupK k with
              | none => simp only [ek] at q; exact q.elim
              | some kk =>
                simp only [ek] at q
                split at q
                case isFalse => exact q.elim
                rename_i h4
                obtain ⟨hz, hkl⟩ := h4
                have r2 := r1.pop
                have hi1 : isAbs (rd m1 i) = false := by rw [hr]; rfl
                obtain ⟨fx, rx⟩ := r1.wf.toTop.topRep
                obtain ⟨b, rfl, hb⟩ := tup_key r1.wf.ex rx ek
                have r3 : Rel X.K cl (psh d fd) (psh vd fv) F1 H2 σ m1 lv := r2.push (r2.wf.dup0 hvd.rep)
                obtain ⟨A, vs, u, f', va, ha', hu2, hlen, rv, put⟩ := r3.mutAt (p := []) (k := .dit ks) (ds := xs) hi1 (by rw [hr]; exact dget_nil) down_nil
                obtain ⟨hu2, hl2⟩ := hu2
                subst hu2
                have ev' : cV σ lv fv (root φ m i) = .ref A := (same_v r0 r2 hi hi1).trans (show V.ref A = _ from va).symm
                refine ⟨A, _, ev', DPut.t ha' hb (by rw [List.length_zip]; omega), ?_⟩
                unfold putD at q
                have wrn : ∀ y, wr m1 i (dput (rd m1 i) [] y) = wr m1 i y := fun y => by rw [dput_nil]
                cases ej : posL ks kk with
                | some j =>
                  simp only [ej] at q
                  split at q
                  · rename_i heq
                    split at heq
                    · cases heq
                    · rename_i hc
                      cases heq
                      have hj : j < xs.length := by have := posL_lt ks kk ej; omega
                      rw [putK_zip ks vs kk vd hl2 ej (Bool.eq_false_iff.mpr hc)]
                      have pp := put _ (.dit ks) (xs.set j d) (vs.set j vd) ⟨rfl, by simp [hl2]⟩ fun fps rs nd => rs.set1 hj rv nd
                      rw [wrn] at pp
                      exact q F1 _ σ pp
                  · exact q.elim
                | none =>
                  simp only [ej] at q
                  rw [putK_snoc ks vs kk vd hl2 ej]
                  have pp := put _ (.dit (ks ++ [kk])) (xs ++ [d]) (vs ++ [vd]) ⟨rfl, by simp [hl2]⟩ fun fps rs nd => ⟨fps ++ f', rs.app (Reps.one rv), nd, fun b h => h⟩
                  rw [wrn] at pp
                  exact q F1 _ σ pp
            all_goals exact q.elim
          | _ => simp only [hr] at q; exact q.elim
end
end Rf
namespace Rf
open PySem L2
/-! k in d, as a test -/
section
variable {X : Cx} {cl : Nat → Addr} {o i : Expr} {g t : SF} {pos : Pos}
theorem din_of {σ : St} {H : Hp} {Q : VK} (h : tP X.K cl (sBin (oInK false) t g) σ H Q) : tDIn (tP X.K cl t) (tK X.K cl g) σ H Q := by
  obtain ⟨φ, fd, fv, F, m, lv, r, d, ed, hd, q⟩ := h
  obtain ⟨k, x, ek, ex, ez⟩ := sBin_some ed
  unfold oInK at ez
  cases x with
  | obj ow kd ds =>
    cases kd with
    | dic ks =>
      simp only at ez
      cases hk : keyOf k with
      | none => rw [hk] at ez; cases ez
      | some kk =>
        simp only [hk, Option.map_some, Option.some.injEq] at ez
        subst ez
        refine ⟨φ, fd, fv, F, m, lv, r, _, ek, key_sc hk, fun vk hvk => ⟨φ, fd, fv, F, m, lv, r, _, ex, fun v fx rx => ?_⟩⟩
        obtain ⟨a, rfl, h⟩ := dic_get r.wf.ex rx hvk rfl hk
        cases hg : getL ks ds kk with
        | none => rw [hg] at h; exact ⟨a, none, rfl, h, q _ (by rw [hg]; rfl)⟩
        | some d' =>
          rw [hg] at h
          obtain ⟨w, fw, h1, h2⟩ := h
          exact ⟨a, some w, rfl, h1, q _ (by rw [hg]; rfl)⟩
    | _ => cases ez
  | _ => cases ez
theorem dnin_of {σ : St} {H : Hp} {Q : VK} (h : tP X.K cl (sBin (oInK true) t g) σ H Q) : tDNotIn (tP X.K cl t) (tK X.K cl g) σ H Q := by
  obtain ⟨φ, fd, fv, F, m, lv, r, d, ed, hd, q⟩ := h
  obtain ⟨k, x, ek, ex, ez⟩ := sBin_some ed
  unfold oInK at ez
  cases x with
  | obj ow kd ds =>
    cases kd with
    | dic ks =>
      simp only at ez
      cases hk : keyOf k with
      | none => rw [hk] at ez; cases ez
      | some kk =>
        simp only [hk, Option.map_some, Option.some.injEq] at ez
        subst ez
        refine ⟨φ, fd, fv, F, m, lv, r, _, ek, key_sc hk, fun vk hvk => ⟨φ, fd, fv, F, m, lv, r, _, ex, fun v fx rx => ?_⟩⟩
        obtain ⟨a, rfl, h⟩ := dic_get r.wf.ex rx hvk rfl hk
        cases hg : getL ks ds kk with
        | none => rw [hg] at h; exact ⟨a, none, rfl, h, q _ (by rw [hg]; rfl)⟩
        | some d' =>
          rw [hg] at h
          obtain ⟨w, fw, h1, h2⟩ := h
          exact ⟨a, some w, rfl, h1, q _ (by rw [hg]; rfl)⟩
    | _ => cases ez
  | _ => cases ez
theorem t_din (hu : X.A.units + 65 < cLine) (hi : PEs X cl i t) (ho : PEp X cl o g) (hm : behindInMarks .In o = false := by kernel_rfl) : PTs' X cl (.Compare i [.In] [o] pos) (sT (sBin (oInK false) t g)) :=
  pt_imp (pt_cmp (pc_din (by omega) hi ho) hm) fun σ H Q ⟨φ, fd, fv, F, m, lv, rl, k, ek, q⟩ => by
    unfold sT at ek
    cases hs' : sBin (oInK false) t g m with
    | none => rw [hs'] at ek; cases ek
    | some d =>
      rw [hs'] at ek
      have ed := bOf_some (show bOf d = some k from ek)
      subst ed
      exact din_of (Q := fun x H1 => ∃ c, x = V.bl c ∧ Q c H1) ⟨φ, fd, fv, F, m, lv, rl, _, hs', rfl, fun v hv => ⟨k, hv, q⟩⟩
theorem t_dnin (hu : X.A.units + 65 < cLine) (hi : PEs X cl i t) (ho : PEp X cl o g) (hm : behindInMarks .NotIn o = false := by kernel_rfl) : PTs' X cl (.Compare i [.NotIn] [o] pos) (sT (sBin (oInK true) t g)) :=
  pt_imp (pt_cmp (pc_dnotin (by omega) hi ho) hm) fun σ H Q ⟨φ, fd, fv, F, m, lv, rl, k, ek, q⟩ => by
    unfold sT at ek
    cases hs' : sBin (oInK true) t g m with
    | none => rw [hs'] at ek; cases ek
    | some d =>
      rw [hs'] at ek
      have ed := bOf_some (show bOf d = some k from ek)
      subst ed
      exact dnin_of (Q := fun x H1 => ∃ c, x = V.bl c ∧ Q c H1) ⟨φ, fd, fv, F, m, lv, rl, _, hs', rfl, fun v hv => ⟨k, hv, q⟩⟩
end
end Rf
namespace Rf
open PySem L2
/-! the plain side: a dict by pairs of whole numbers, its values told by a function of the key -/
def kT (q : Nat × Nat) : List Key := [.inl (q.1 : Int), .inl (q.2 : Int)]
def celD (o : Ow) (p : Nat × Nat) : D := .obj o .tup [.int p.1, .int p.2]
def ditF (o : Ow) (xs : List (Nat × Nat)) (F : Nat × Nat → Int) : D := .obj o (.dit (xs.map kT)) (xs.map fun x => .int (F x))
theorem kT_inj {a b : Nat × Nat} (h : kT a = kT b) : a = b := by
  unfold kT at h
  injection h with h1 h2
  injection h2 with h2 _
  have e1 : (a.1 : Int) = b.1 := Sum.inl.inj h1
  have e2 : (a.2 : Int) = b.2 := Sum.inl.inj h2
  exact Prod.ext (by omega) (by omega)
theorem tupK_cel {o : Ow} (ho : o ≠ .con) (q : Nat × Nat) : tupK (celD o q) = some (kT q) := by
  show (if o ≠ Ow.con then keysOf [.int q.1, .int q.2] else none) = _
  rw [if_pos ho]
  rfl
theorem putD_at {κ : Type} [DecidableEq κ] (ks : List κ) (ds : List D) (k : κ) (d : D) (j : Nat) (h : posL ks k = some j) (hn : k ∉ ks.drop (j + 1)) : putD ks ds k d = some (ks, ds.set j d) := by
  unfold putD
  rw [h]
  show (if (ks.drop (j + 1)).contains k = true then none else some (ks, ds.set j d)) = _
  rw [if_neg (by simpa using hn)]
theorem getL_F (F : Nat × Nat → Int) (x : Nat × Nat) : ∀ xs : List (Nat × Nat), x ∈ xs → getL (xs.map kT) (xs.map fun x => D.int (F x)) (kT x) = some (.int (F x))
  | [], h => by cases h
  | y :: xs, h => by
    rw [List.map_cons, List.map_cons]
    unfold getL
    by_cases e : kT y = kT x
    · rw [if_pos e, kT_inj e]
    · rw [if_neg e]
      rcases List.mem_cons.mp h with q | q
      · exact absurd (by rw [q]) e
      · exact getL_F F x xs q
theorem posL_no (x : Nat × Nat) : ∀ xs : List (Nat × Nat), x ∉ xs → posL (xs.map kT) (kT x) = none
  | [], _ => rfl
  | y :: xs, h => by
    rw [List.map_cons]
    unfold posL
    rw [if_neg fun e => h (by rw [kT_inj e]; simp), posL_no x xs fun q => h (by simp [q])]
    rfl
/-- a key that is there -/
theorem put_F (F : Nat × Nat → Int) (x : Nat × Nat) (v : Int) : ∀ xs : List (Nat × Nat), xs.Nodup → x ∈ xs → putD (xs.map kT) (xs.map fun x => D.int (F x)) (kT x) (.int v) = some (xs.map kT, xs.map fun y => D.int (if y = x then v else F y)) := by
  have key : ∀ xs : List (Nat × Nat), xs.Nodup → x ∈ xs → ∃ j, posL (xs.map kT) (kT x) = some j ∧ kT x ∉ (xs.map kT).drop (j + 1) ∧ (xs.map fun x => D.int (F x)).set j (.int v) = xs.map fun y => D.int (if y = x then v else F y) := by
    intro xs
    induction xs with
    | nil => intro _ h; cases h
    | cons y xs ih =>
      intro nd h
      obtain ⟨n1, n2⟩ := List.nodup_cons.mp nd
      by_cases e : y = x
      · subst e
        refine ⟨0, by rw [List.map_cons]; unfold posL; rw [if_pos rfl], ?_, ?_⟩
        · rw [List.map_cons, List.drop_succ_cons, List.drop_zero]
          have : kT y ∉ xs.map kT := fun q => by
            obtain ⟨z, hz, ez⟩ := List.mem_map.mp q
            rw [kT_inj ez] at hz
            exact n1 hz
          exact this
        · rw [List.map_cons, List.set_cons_zero, List.map_cons, if_pos rfl]
          congr 1
          apply List.map_congr_left
          intro z hz
          rw [if_neg fun q => n1 (by rw [← q]; exact hz)]
      · have hx : x ∈ xs := by
          rcases List.mem_cons.mp h with q | q
          · exact absurd q.symm e
          · exact q
        obtain ⟨j, j1, j2, j3⟩ := ih n2 hx
        refine ⟨j + 1, ?_, ?_, ?_⟩
        · rw [List.map_cons]
          unfold posL
          rw [if_neg fun q => e (kT_inj q), j1]
          rfl
        · rw [List.map_cons, List.drop_succ_cons]
          exact j2
        · rw [List.map_cons, List.set_cons_succ, j3, List.map_cons, if_neg e]
  intro xs nd h
  obtain ⟨j, j1, j2, j3⟩ := key xs nd h
  rw [putD_at _ _ _ _ j j1 j2, j3]
/-- a new key -/
theorem put_N (F : Nat × Nat → Int) (x : Nat × Nat) (xs : List (Nat × Nat)) (h : x ∉ xs) : putD (xs.map kT) (xs.map fun x => D.int (F x)) (kT x) (.int (F x)) = some ((xs ++ [x]).map kT, (xs ++ [x]).map fun y => D.int (F y)) := by
  unfold putD
  rw [posL_no x xs h, List.map_append, List.map_append]
  rfl
theorem getT_F {i : Nat} {o o' : Ow} (ho : o' ≠ .con) {xs : List (Nat × Nat)} {F : Nat × Nat → Int} {x : Nat × Nat} {m : M} (hm : rd m i = ditF o xs F) (hx : x ∈ xs) : getT i (celD o' x) m = .ok (.int (F x)) m := by
  unfold getT
  rw [hm]
  show (match (tupK (celD o' x)).bind fun kk => (getL (xs.map kT) (xs.map fun x => D.int (F x)) kk).bind toSc with
    | some d => R.ok d m
    | none => R.no) = _
  rw [tupK_cel ho, Option.bind_some, getL_F F x xs hx]
  rfl
theorem putT_F {i : Nat} {o' : Ow} (ho : o' ≠ .con) {xs : List (Nat × Nat)} {F : Nat × Nat → Int} {x : Nat × Nat} {v : Int} {m : M} (hm : rd m i = ditF .own xs F) (nd : xs.Nodup) (hl : xs.length < 1000000) (hx : x ∈ xs) : putT i (.int v) (celD o' x) m = .ok .nx (wr m i (ditF .own xs fun y => if y = x then v else F y)) := by
  unfold putT
  rw [hm, tupK_cel ho]
  show (if (xs.map fun x => D.int (F x)).length < sizeLine ∧ (xs.map kT).length = (xs.map fun x => D.int (F x)).length then match putD (xs.map kT) (xs.map fun x => D.int (F x)) (kT x) (.int v) with
      | some (ks', xs') => R.ok Fl.nx (wr m i (.obj .own (.dit ks') xs'))
      | none => R.no
    else R.no) = _
  rw [if_pos ⟨by rw [List.length_map, sizeLine_eq]; omega, by rw [List.length_map, List.length_map]⟩, put_F F x v xs nd hx]
  rfl
theorem putT_N {i : Nat} {o' : Ow} (ho : o' ≠ .con) {xs : List (Nat × Nat)} {F : Nat × Nat → Int} {x : Nat × Nat} {m : M} (hm : rd m i = ditF .own xs F) (hl : xs.length < 1000000) (hx : x ∉ xs) : putT i (.int (F x)) (celD o' x) m = .ok .nx (wr m i (ditF .own (xs ++ [x]) F)) := by
  unfold putT
  rw [hm, tupK_cel ho]
  show (if (xs.map fun x => D.int (F x)).length < sizeLine ∧ (xs.map kT).length = (xs.map fun x => D.int (F x)).length then match putD (xs.map kT) (xs.map fun x => D.int (F x)) (kT x) (.int (F x)) with
      | some (ks', xs') => R.ok Fl.nx (wr m i (.obj .own (.dit ks') xs'))
      | none => R.no
    else R.no) = _
  rw [if_pos ⟨by rw [List.length_map, sizeLine_eq]; omega, by rw [List.length_map, List.length_map]⟩, put_N F x xs hx]
  rfl
end Rf
namespace Rf
open PySem PySem.Spec L2
open PyProof.Rows (envOfC)
/-! an exception out of a comprehension's element or test -/
section
variable {M : Model} {A : Around} {E : Value → Shared → Prop} {s : Shared} {Z : Obj → Prop} {base : Heap} {env : Env} {outer l : List Env} {L e : Addr}
/-- the frame is noted, whatever was noted before -/
theorem looks_otherZ {fl : Value} {Q : Unit → Shared → Prop} (hZ : HandSPX.Steady Z) (hfr : A.frames = some (env :: outer)) (hf : env.frame = some L) (hne : (fl == rawInt L) = false)
    (hkb : base.StaysIn s.heap) (hen : base.get? e = none) (hl : s.heap.FunFrames base (env :: outer)) (ht : HandSPX.TracedZ s.heap base e Z fl)
    (hQ : ∀ h', HandSPX.HeldZ base (env :: outer) e Z L h' → s.heap.UpToSlots h' → Q () { s with heap := h' }) : wpAny M A (noteFrame (.ref e) env) Q E s := by
  obtain ⟨oe, vs, T, oT, ts, he, hz, hd, h1, hnT, hTe, hT, hdT, h3⟩ := ht
  unfold noteFrame
  simp only [hf]
  refine wpAny_bind (wpAny_field he hd h1 ?_)
  rw [if_pos (show (Value.ref T != Value.none) = true from by simp)]
  refine wpAny_bind (wpAny_field hT hdT h3 ?_)
  rw [if_neg (by rw [hne]; decide)]
  refine wpAny_bind (wpAny_setField hT hdT (Array.getElem?_eq_some_iff.mp h3).1 ?_)
  have other : ∀ b, b ≠ T → (s.heap.update T (Obj.mapFields (·.setIfInBounds 3 Value.none))).get? b = s.heap.get? b := fun b hb => Heap.get?_update_other _ _ (Ne.symm hb)
  have noRecord : ∀ b o, s.heap.get? b = some o → (∀ vs, o.data ≠ .fields vs) → b ≠ T := fun b o hb hnf q => by
    rw [q, hT] at hb; injection hb with hb; subst hb; exact hnf ts hdT
  refine HandSPX.wpAny_entryZ hZ hfr (hl.of_keeps fun b o hb hnf => ⟨o, (other b (noRecord b o hb hnf)).trans hb, rfl⟩) hf ((other e (Ne.symm hTe)).trans he)
    (fun b o hbo => (other b fun q => by rw [q, hnT] at hbo; cases hbo).trans (hkb b o hbo)) hen hd (Array.getElem?_eq_some_iff.mp h1).1 hz fun h' hN => ?_
  obtain ⟨x1, x2, x3, x4⟩ := hN
  exact hQ h' ⟨x1, hen, x2, x3⟩ fun b o hb hnf => x4 b o ((other b (noRecord b o hb hnf)).trans hb) hnf
theorem sky_noted {B : Heap} {L' : Addr} {Q : Unit → Shared → Prop} (hZ : HandSPX.Steady Z) (hfr : A.frames = some (env :: outer)) (hf : env.frame = some L) (hne : L' ≠ L)
    (x : Sky B (env :: outer) e Z L' s.heap) (hQ : ∀ h', HandSPX.HeldZ B (env :: outer) e Z L h' → s.heap.UpToSlots h' → Q () { s with heap := h' }) : wpAny M A (noteFrame (.ref e) env) Q E s := by
  rcases x with ⟨hB, hn, hl, oe, vs, he, hz, hd, h1⟩ | fl | hh
  · exact HandSPX.look_newZ hZ hfr hl hf he hB hn hd h1 hz hQ
  · exact HandSPX.looks_onZ hZ hfr hf fl hQ
  · obtain ⟨a1, a2, a3, a4⟩ := hh
    exact looks_otherZ hZ hfr hf (by
      have : ¬ ((L' : Nat) : Int) = ((L : Nat) : Int) := fun h => hne (Int.ofNat.inj h)
      simp [rawInt]
      exact this) a1 a2 a3 a4 hQ
end
abbrev blkE (X : Cx) (s : Shared) (H : Hp) (scope : Scope) (cenv : Env) (fp : List Addr) (xe : Value → Shared → Prop) : Cx := { X.blk s H scope cenv fp with xe := xe }
def WS (W : WX) (σ : St) : WX := fun c d _ H => W c d σ H
section
variable {X : Cx} {W : WX} {pins : List (Addr × Obj)} {σ : St} {H3 : Hp} {s3 : Shared} {scope : Scope} {ce : Env} {fp : List Addr}
theorem takes_blk (hs0 : X.stack = X.env :: X.outer) (hf0 : X.env.frame = some X.env.locals) (tk : Takes X W) (I3 : Inv X pins σ H3 s3) (f3 : ∀ b ∈ fp, FpOk X pins H3 b ∧ b < s3.heap.objs.size)
    (hce : ce.locals = s3.heap.objs.size) (hcf : ce.frame = X.env.frame) :
    Takes (blkE X s3 H3 scope ce fp (notedBy (model X.prog X.w) X.A ce (CompFails (model X.prog X.w) X.A X.xe ce))) (WS W σ) := by
  rintro u s' ⟨a, B, sI, pins', σ', H', cls, d, rfl, I', nb, up, sky, na, os, ag, w⟩
  have w : W cls d σ H' := w
  have hfr : X.A.frames = some (X.env :: X.outer) := by rw [I3.ok.frames, hs0]
  have hLL : ce.locals ≠ X.env.locals := by
    rw [hce]
    exact Nat.ne_of_gt I3.lt
  have sky : Sky B (X.env :: X.outer) a (Zc cls d) ce.locals s'.heap := by
    have : Sky B X.stack a (Zc cls d) ce.locals s'.heap := sky
    rw [hs0] at this
    exact this
  have nb : ∀ b o, sI.heap.get? b = some o → b ∉ frs X.stack → B.get? b = some o := nb
  show wpAny (model X.prog X.w) X.A (noteFrame (.ref a) ce) _ _ s'
  rw [noteFrame_env _ hcf]
  refine sky_noted Zc.steady hfr hf0 hLL sky fun h1 hh up1 => ?_
  obtain ⟨m, hn, _⟩ := I'.loc
  have hn : sI.heap.Ns ce.locals m := hn
  have hn1 : h1.Ns ce.locals m := hn.upToSlots (up.trans up1)
  refine ⟨m, hn1, fun h2 m2 hn2 sb => ?_⟩
  have sb : Heap.SameBut ce.locals h1 h2 := sb
  obtain ⟨k1, k2, k3, oe, vs, T, oT, ts, he, hz, hd, h1', hnT, hTe, hT, hdT, h3⟩ := hh
  have notL : ∀ {b : Addr} {o : Obj} {vs : Array Value}, h1.get? b = some o → o.data = .fields vs → b ≠ ce.locals := fun {b o vs} e dd z => by
    obtain ⟨oL, es, ep, hoL, hdL, _⟩ := hn1
    rw [z, hoL] at e
    cases e
    rw [hdL] at dd
    cases dd
  have hfrL : ce.locals ∉ frs X.stack := fun hm => by
    rcases List.mem_cons.mp (I3.stkSub _ hm) with z | z
    · exact hLL z
    · exact I3.nofs (Nat.le_of_eq hce.symm) z
  have B0 : ∀ {b : Addr} {o : Obj}, (PySem.W.hideAll B [ce.locals]).get? b = some o → B.get? b = some o ∧ b ≠ ce.locals := fun {b o} e => ⟨PySem.W.of_hideAll _ e, fun z => by
    rw [PySem.W.hideAll_none _ (by simp [z])] at e; cases e⟩
  have B0n : ∀ {b : Addr}, B.get? b = none → (PySem.W.hideAll B [ce.locals]).get? b = none := fun {b} e => by
    cases q : (PySem.W.hideAll B [ce.locals]).get? b with
    | none => rfl
    | some o => rw [(B0 q).1] at e; cases e
  have he2 : h2.get? a = some oe := (sb.2 a (notL he hd)).trans he
  have hT2 : h2.get? T = some oT := (sb.2 T (notL hT hdT)).trans hT
  have held2 : HandSPX.HeldZ (PySem.W.hideAll B [ce.locals]) (X.env :: X.outer) a (Zc cls d) X.env.locals h2 := by
    refine ⟨fun b o e => ?_, B0n k2, ?_, oe, vs, T, oT, ts, he2, hz, hd, h1', B0n hnT, hTe, hT2, hdT, h3⟩
    · obtain ⟨e1, e2⟩ := B0 e
      exact (sb.2 b e2).trans (k1 b o e1)
    · exact funFrames_none (Heap.FunFrames.sameBut sb hn2 k3) fun b hb => B0n (k3.mem hb).1
  unfold passOn
  refine wpAny_bind (wpAny_field he2 hd h1' ?_)
  rw [if_neg (show ¬ ((Value.ref T == Value.none) = true) from by simp)]
  rw [hcf, hf0]
  refine wpAny_bind (HandSPX.setFlight_onZ held2 fun h4 hh4 up4 => wpAny_throw (tk _ _ ?_))
  -- the state without the block's dict
  have hid : ∀ {b : Addr} {o : Obj}, (PySem.W.hideAll sI.heap [ce.locals]).get? b = some o → sI.heap.get? b = some o ∧ b ≠ ce.locals := fun {b o} e => ⟨PySem.W.of_hideAll _ e, fun z => by
    rw [PySem.W.hideAll_none _ (by simp [z])] at e; cases e⟩
  have hid2 : ∀ {b : Addr} {o : Obj}, sI.heap.get? b = some o → b ≠ ce.locals → (PySem.W.hideAll sI.heap [ce.locals]).get? b = some o := fun {b o} e ne => PySem.W.hideAll_get _ e (by simpa using ne)
  have old : ∀ {b : Addr} {o : Obj}, s3.heap.get? b = some o → b ≠ ce.locals := fun {b o} e z => by
    have := Heap.lt_size e
    rw [z, hce] at this
    exact Nat.lt_irrefl _ this
  have un : Un (frs X.stack) fp H3 H' s3.heap sI.heap := I'.base
  have un2 : Un (frs X.stack) fp H3 H' s3.heap (PySem.W.hideAll sI.heap [ce.locals]) := by
    refine ⟨fun b o e n h1 h2 => hid2 (un.keep b o e n h1 h2) (old e), fun b o e n h1 h2 => ?_, un.free, fun b o e h2 => ?_, un.tups, un.frzs, un.tbls⟩
    · obtain ⟨sl, q⟩ := un.slot b o e n h1 h2
      exact ⟨sl, hid2 q (old e)⟩
    · obtain ⟨o', q⟩ := un.there b o e h2
      exact ⟨o', hid2 q (old e)⟩
  have nL : H' ce.locals = none := I'.free
  have hok2 : HOk X.prog X.w H' (PySem.W.hideAll sI.heap [ce.locals]) := fun b o e => by
    refine (I'.hok b o e).stay (fun c u hc q => hid2 q fun z => ?_) (fun _ q => q) fun _ _ q => q
    rw [z] at hc
    rcases hc with hc | hc
    · rw [← hc, nL] at e; cases e
    · rw [nL] at hc; cases hc
  have J : Inv X pins σ H' { sI with heap := PySem.W.hideAll sI.heap [ce.locals] } := I3.call' (ch := fp) (s' := { sI with heap := PySem.W.hideAll sI.heap [ce.locals] }) I'.os un2 hok2 I'.bare fun b hb => ⟨(f3 b hb).1.2.2.2.1, (f3 b hb).1.2.1, (f3 b hb).1.2.2.2.2.1, (f3 b hb).1.2.2.2.2.2⟩
  refine ⟨a, PySem.W.hideAll B [ce.locals], _, pins, σ, H', cls, d, rfl, J, fun b o e hb => ?_, fun b o e hnf => ?_, .inr (.inr (by rw [hs0]; exact hh4)), na, os, ag, w⟩
  · obtain ⟨e1, e2⟩ := hid e
    exact PySem.W.hideAll_get _ (nb b o e1 hb) (by simpa using e2)
  · obtain ⟨e1, e2⟩ := hid e
    obtain ⟨sl, e3⟩ := up b o e1 hnf
    obtain ⟨sl2, e4⟩ := up1 b _ e3 hnf
    obtain ⟨sl3, e5⟩ := up4 b _ ((sb.2 b e2).trans e4) hnf
    exact ⟨sl3, e5⟩
end
/-- what an outcome of the iterating of a block owes -/
def tLcX (W : WX) (wi : TI) (g : TG) (tt : WX → TT) (te : WX → TE) (js : List Nat) : TE := fun σ H Q => tLc wi g (tt (WS W σ)) (te (WS W σ)) js σ H Q
section
variable {X : Cx} {W : WX}
theorem lcX_core {elt tg iter : Expr} {ifs : List Expr} {scope : Scope} {own : List (Str × Nat)} {pos pos' : Pos} {wi : TI} {g : TG} {tt : WX → TT} {te : WX → TE} {pins : List (Addr × Obj)} {s : Shared} {σ : St} {H : Hp} {Q : VK} {use : Option (Value → Sem Unit)} {Qf : Value → Shared → Prop}
    (hs0 : X.stack = X.env :: X.outer) (hf0 : X.env.frame = some X.env.locals) (tk : Takes X W) (hc : X.calm = true) (hN : X.N.Nodup) (I : Inv X pins σ H s) (hi : PI X tg iter wi) (ok : BlkOk X.N X.env.scope scope own)
    (hb : ∀ (W' : WX) (s : Shared) (H : Hp) (C : Addr) (cs : List (Str × Addr)) (fp : List Addr) (xe : Value → Shared → Prop), Takes (blkE X s H scope (compEnvC scope cs C X.env) fp xe) W' →
      PG (blkE X s H scope (compEnvC scope cs C X.env) fp xe) tg g ∧ PTs (blkE X s H scope (compEnvC scope cs C X.env) fp xe) ifs (tt W') ∧ PE (blkE X s H scope (compEnvC scope cs C X.env) fp xe) elt (te W'))
    (hs : ∀ x, foldedSetIterable iter X.env x = pure x) (h : tLcX W wi g tt te (own.map (·.2)) σ H Q)
    (fz : ∀ (D : Addr) (ce : Env) (s' : Shared) (m : Str → Option Value) (H' : Hp), Inv X pins σ H' s' → Q (.ref D) H' → s'.heap.Ns ce.locals m → FpOk X pins H' ce.locals → compEnds (model X.prog X.w) X.A X.xe use Qf (.ref D) ce (.ok .next) s') :
    wpAny (model X.prog X.w) X.A (comprehension (.ListComp elt [⟨tg, iter, ifs, 0⟩] scope pos) scope X.env pos' (newList []) false (eval iter X.env) use) Qf X.xe s := by
  have caps : ∀ y ∈ scope.names, y.2 = .free → ∃ c, X.env.cells.lookup y.1 = some c := fun y hy e => (ok.free y hy e).elim (fun k => I.ok.has _ (.inl k)) (fun k => I.ok.has _ (.inr k))
  refine comprehension_at (use := use) rfl hs (closure_ok caps) ok.kind (fun y hy e => by rw [ok.uniq y hy, e]) (thn (hi.run pins s σ H _ I h) fun xv s1 hx => thn hx fun itv s2 h2 => ?_)
  obtain ⟨it, fp, tn, J, H2, rfl, I2, T, st2, f2, q⟩ := h2
  refine wpAny_newObj_type (newEnv_comp ?_) (by show 0 ≤ sizeLine; decide)
  obtain ⟨D, hD⟩ : ∃ D, D = s2.heap.objs.size := ⟨_, rfl⟩
  rw [← hD]
  obtain ⟨V, ⟨m0, v0⟩, turn⟩ := q D (I2.hok.fresh (Nat.le_of_eq hD.symm))
  -- behind the new list
  obtain ⟨s3, hs3⟩ : ∃ s3 : Shared, s3 = { s2 with heap := s2.heap.push { cls := .type "list", data := .seq ([] : List Value).toArray } } := ⟨_, rfl⟩
  have gr : ∀ b o, s2.heap.get? b = some o → s3.heap.get? b = some o := fun b o e => by rw [hs3]; exact Heap.get?_push_of_some _ e
  obtain ⟨H3, hH3⟩ : ∃ H3, H3 = upd H2 D (.lst []) := ⟨_, rfl⟩
  have I3 : Inv X pins σ H3 s3 := by
    rw [hH3, hs3, hD]
    refine I2.laid (t' := s2.toks) (fun b o e => Heap.get?_push_of_some _ e) (Nat.le_refl _) ⟨Nat.zero_le _, [], 0, .nil, ?_⟩
    exact Heap.get?_push_size _ rfl
  have f3 : ∀ b ∈ fp, FpOk X pins H3 b ∧ b < s3.heap.objs.size := fun b hb => by
    obtain ⟨o, e, _⟩ := T.obj _ _ st2 b hb
    have lt := Heap.lt_size e
    refine ⟨⟨?_, (f2 b hb).2⟩, Heap.lt_size (gr b o e)⟩
    rw [hH3, upd_ne (by rw [hD]; exact Nat.ne_of_lt lt)]
    exact (f2 b hb).1
  have st3 : tn 0 s3.heap := T.keep _ _ _ st2 fun b _ o e => gr b o e
  have I4 := block_start I3 ok hN f3
  obtain ⟨ce, hce⟩ : ∃ ce, ce = compEnvC scope (cellsFrom (s3.heap.objs.size + 1) scope.names (cloFrom X.env.cells scope.names [])) s3.heap.objs.size X.env := ⟨_, rfl⟩
  have cl0 : ce.locals = s3.heap.objs.size := by rw [hce]; rfl
  have cf0 : ce.frame = X.env.frame := by rw [hce]; rfl
  have tkB := takes_blk (scope := scope) (ce := ce) hs0 hf0 tk I3 f3 cl0 cf0
  obtain ⟨xe, hxe⟩ : ∃ xe, xe = notedBy (model X.prog X.w) X.A ce (fun e s' => compEnds (model X.prog X.w) X.A X.xe use Qf (.ref D) ce (.error e) s') := ⟨_, rfl⟩
  have tkB : Takes (blkE X s3 H3 scope ce fp (notedBy (model X.prog X.w) X.A ce (fun e s' => compEnds (model X.prog X.w) X.A X.xe use Qf (.ref D) ce (.error e) s'))) (WS W σ) := tkB
  rw [← hxe] at tkB
  obtain ⟨pg, pt, pe⟩ : PG (blkE X s3 H3 scope ce fp xe) tg g ∧ PTs (blkE X s3 H3 scope ce fp xe) ifs (tt (WS W σ)) ∧ PE (blkE X s3 H3 scope ce fp xe) elt (te (WS W σ)) := by
    rw [hce] at tkB ⊢
    exact hb _ _ _ _ _ _ _ tkB
  have I4 : Inv (blkE X s3 H3 scope ce fp xe) [] (wipe σ (own.map (·.2))) H3 { s3 with heap := pushCells (s3.heap.push { cls := .type "dict", data := .dict #[] }) scope.names } := by
    rw [hce]
    exact I4.wish xe
  have goal : codeAny (model X.prog X.w) X.A (.compStart (.ListComp elt [⟨tg, iter, ifs, 0⟩] scope pos) 0 (.ref it) (.ref D) ce) (compEnds (model X.prog X.w) X.A X.xe use Qf (.ref D) ce) { s3 with heap := pushCells (s3.heap.push { cls := .type "dict", data := .dict #[] }) scope.names } := by
    obtain ⟨s4, hs4⟩ : ∃ s4 : Shared, s4 = { s3 with heap := pushCells (s3.heap.push { cls := .type "dict", data := .dict #[] }) scope.names } := ⟨_, rfl⟩
    rw [← hs4] at I4 ⊢
    have st4 : tn 0 s4.heap := T.keep _ _ _ st3 fun b _ o e => by rw [hs4]; exact pushCells_keeps _ _ _ _ (Heap.get?_push_of_some _ e)
    have stat : ∀ {σ' : St} {H' : Hp} {s' : Shared}, Inv (blkE X s3 H3 scope ce fp xe) [] σ' H' s' → (∀ b ∈ fp, H' b = none) → ∀ b ∈ fp, FpOk (blkE X s3 H3 scope ce fp xe) [] H' b := fun {σ' H' s'} I' hn b hb =>
      ⟨hn b hb, (I'.ok.exf b hb).1, I'.ok.exfs b hb, .inl hb, fun x c e => (I'.ok.exf b hb).2 x c e, fun p hp => absurd (show p ∈ ([] : List (Addr × Obj)) ++ [] from hp) (by simp)⟩
    have loop : codeAny (model X.prog X.w) X.A (.compLoop (.ListComp elt [⟨tg, iter, ifs, 0⟩] scope pos) 0 (.ref it) (.ref D) ce) (compEnds (model X.prog X.w) X.A X.xe use Qf (.ref D) ce) s4 := by
      refine compLoop_any (fun n s' => ∃ i H', Inv (blkE X s3 H3 scope ce fp xe) [] (wipe σ (own.map (·.2))) H' s' ∧ tn i s'.heap ∧ (∀ b ∈ fp, H' b = none) ∧ V i n H') ?_ m0 ⟨0, H3, I4, st4, fun b hb => (f3 b hb).1.1, by rw [hH3]; exact v0⟩
      rw [← hxe]
      rintro n s5 ⟨i, H5, I5, st5, n5, w5⟩
      rcases turn i n H5 w5 with ⟨stop, qq⟩ | ⟨go, Nx, hNx, step⟩
      · refine thn (T.done (blkE X s3 H3 scope ce fp xe) rfl rfl rfl hc i [] s5 _ H5 xe I5 (stat I5 n5) st5 stop) fun r s6 hr6 => ?_
        obtain ⟨rfl, I6⟩ := hr6
        have I7 : Inv X pins σ H5 s6 := I3.call' (ch := fp) I6.os I6.base I6.hok I6.bare fun b hb => ⟨(f3 b hb).1.2.2.2.1, (f3 b hb).1.2.1, (f3 b hb).1.2.2.2.2.1, (f3 b hb).1.2.2.2.2.2⟩
        have nC : H5 ce.locals = none := I6.free
        obtain ⟨m, hn, _⟩ := I6.loc
        exact fz D ce s6 m H5 I7 qq hn (I3.fpOk (Nat.le_of_eq cl0.symm) nC)
      · refine thn (T.item (blkE X s3 H3 scope ce fp xe) rfl rfl rfl hc i [] s5 _ H5 xe I5 (stat I5 n5) st5 go) fun r s6 hr6 => ?_
        obtain ⟨u, rfl, h6⟩ := hr6
        refine thn h6 fun _ s7 h7 => ?_
        obtain ⟨x, H7, I7, r7, y7, st7, n7⟩ := h7
        refine thn (pg.run _ s7 _ H7 x u _ (I7.pinned (stat I7 n7) (T.obj _ _ st7)) r7 (step x H7 y7)) fun _ s8 h8 => ?_
        obtain ⟨σ8, H8, I8, hw8, q8⟩ := h8
        refine thn (pt.run _ s8 σ8 H8 _ I8 q8) fun b s9 h9 => ?_
        obtain ⟨H9, I9, q9⟩ := h9
        have fin : ∀ {s' : Shared} {H' : Hp}, Inv (blkE X s3 H3 scope ce fp xe) ([] ++ pinsAt fp s7.heap) σ8 H' s' → Nx H' → ∃ m, m < n ∧ ∃ i H', Inv (blkE X s3 H3 scope ce fp xe) [] (wipe σ (own.map (·.2))) H' s' ∧ tn i s'.heap ∧ (∀ b ∈ fp, H' b = none) ∧ V i m H' := fun {s' H'} I' nx => by
          obtain ⟨m', hm, w'⟩ := hNx H' nx
          have kept : ∀ b ∈ fp, ∀ o, s7.heap.get? b = some o → s'.heap.get? b = some o ∧ H' b = none := fun b hb o e => by
            have z := I'.pin (b, o) (List.mem_append_right _ (List.mem_append_right _ (mem_pinsAt hb e)))
            exact ⟨z.1, z.2.1⟩
          refine ⟨m', hm, i + 1, H', (I'.unpinned (pins := [])).weak (by rw [← hw8, wipe_length]) (fun j v e => ?_), T.keep _ _ _ st7 fun b hb o e => (kept b hb o e).1, fun b hb => ?_, w'⟩
          · rw [← hw8] at e
            exact (wipe_some e).1
          · obtain ⟨o, e, _⟩ := T.obj _ _ st7 b hb
            exact (kept b hb o e).2
        cases b with
        | false =>
          rw [if_neg (by decide)] at q9
          show (if false = true then _ else _)
          rw [if_neg (by decide)]
          exact fin I9 q9
        | true =>
          rw [if_pos rfl] at q9
          show (if true = true then _ else _)
          rw [if_pos rfl]
          refine thn (pe.run _ s9 σ8 H9 _ I9 q9) fun z s10 h10 => ?_
          obtain ⟨yv, H10, I10, r10, acc, hD10, hz10, nx⟩ := h10
          exact app_ok (X := blkE X s3 H3 scope ce fp xe) I10 hD10 hz10 r10 fun s11 I11 => fin I11 nx
    exact codeAny_compStart_list loop (T.self X.A 0 _ _ _ st4 loop)
  rw [hce, hs3] at goal
  exact goal
theorem pe_lcX {elt tg iter : Expr} {ifs : List Expr} {scope : Scope} {own : List (Str × Nat)} {pos : Pos} {wi : TI} {g : TG} {tt : WX → TT} {te : WX → TE}
    (hs0 : X.stack = X.env :: X.outer) (hf0 : X.env.frame = some X.env.locals) (tk : Takes X W) (hc : X.calm = true) (hN : X.N.Nodup) (hi : PI X tg iter wi) (ok : BlkOk X.N X.env.scope scope own)
    (hb : ∀ (W' : WX) (s : Shared) (H : Hp) (C : Addr) (cs : List (Str × Addr)) (fp : List Addr) (xe : Value → Shared → Prop), Takes (blkE X s H scope (compEnvC scope cs C X.env) fp xe) W' →
      PG (blkE X s H scope (compEnvC scope cs C X.env) fp xe) tg g ∧ PTs (blkE X s H scope (compEnvC scope cs C X.env) fp xe) ifs (tt W') ∧ PE (blkE X s H scope (compEnvC scope cs C X.env) fp xe) elt (te W'))
    (hs : ∀ x, foldedSetIterable iter X.env x = pure x) : PE X (.ListComp elt [⟨tg, iter, ifs, 0⟩] scope pos) (tLcX W wi g tt te (own.map (·.2))) := by
  refine ⟨fun pins s σ H Q I h => ?_⟩
  rw [eval_ListComp]
  refine lcX_core (use := none) hs0 hf0 tk hc hN I hi ok hb hs h fun D ce s6 m H5 I7 qq hn fk => ⟨m, hn, fun h'' sb => ?_⟩
  obtain ⟨f0, f1, f2', f3', f4, f5⟩ := fk
  exact ⟨.ref D, H5, I7.turned (t' := s6.toks) (fun b o hb e => (sb.2 b hb).trans e) f0 f1 f3' f4 f5, rfl, qq⟩
theorem ps_setLcX {i : Nat} {y : Str} {py : Pos} {elt tg iter : Expr} {ifs : List Expr} {scope : Scope} {own : List (Str × Nat)} {pos spos : Pos} {wi : TI} {g : TG} {tt : WX → TT} {te : WX → TE}
    (hs0 : X.stack = X.env :: X.outer) (hf0 : X.env.frame = some X.env.locals) (tk : Takes X W) (hc : X.calm = true) (hN : X.N.Nodup) (hy : X.N[i]? = some y) (hyl : X.env.scope.names.lookup y = some .local)
    (hsw : swapsWith (.ListComp elt [⟨tg, iter, ifs, 0⟩] scope pos) (some (.Name y py)) spos.line X.env = pure true) (hi : PI X tg iter wi) (ok : BlkOk X.N X.env.scope scope own)
    (hb : ∀ (W' : WX) (s : Shared) (H : Hp) (C : Addr) (cs : List (Str × Addr)) (fp : List Addr) (xe : Value → Shared → Prop), Takes (blkE X s H scope (compEnvC scope cs C X.env) fp xe) W' →
      PG (blkE X s H scope (compEnvC scope cs C X.env) fp xe) tg g ∧ PTs (blkE X s H scope (compEnvC scope cs C X.env) fp xe) ifs (tt W') ∧ PE (blkE X s H scope (compEnvC scope cs C X.env) fp xe) elt (te W'))
    (hs : ∀ x, foldedSetIterable iter X.env x = pure x) : PS X (.Assign [.Name y py] (.ListComp elt [⟨tg, iter, ifs, 0⟩] scope pos) spos) (tAsg (tLcX W wi g tt te (own.map (·.2))) (gName i)) := by
  refine ⟨fun pins s σ H D I h => ?_⟩
  rw [exec_Assign_Name_used _ _ _ _ hsw]
  have h : tLcX W wi g tt te (own.map (·.2)) σ H (fun x H1 => gName i x σ H1 D.nx) := h
  refine wpAny_bind (wpAny_standAt (wpAny_bind ?_))
  show wpAny _ X.A (do let _ ← comprehension (.ListComp elt [⟨tg, iter, ifs, 0⟩] scope pos) scope X.env (firstIterPos [⟨tg, iter, ifs, 0⟩] pos) (newList []) false (eval iter X.env) (some (assign (.Name y py) X.env))) _ _ s
  refine wpAny_bind (thn (lcX_core (Qf := fun _ s' => SP X pins D .next s') hs0 hf0 tk hc hN I hi ok hb hs h fun L ce s' m H' I' q hn fk => ?_) fun _ s' hq => wpAny_pure (wpAny_pure hq))
  show wpAny _ _ (assign (.Name y py) X.env (.ref L)) _ _ _
  refine wpAny_assign_Name (store_ok2 (v := V.ref L) I' hN hy (.inl hyl) rfl (fun s2 I2 back => ?_) (.inr hyl))
  obtain ⟨a, sb, ha⟩ := back
  obtain ⟨f0, f1, f2, f3, f4, f5⟩ := fk
  have apart : ce.locals ≠ a := ha.elim (fun z => by rw [z]; exact f1) fun z e => f4 y a z e.symm
  exact ⟨m, hn.sameBut sb apart, fun h3 sb3 => ⟨_, H', I2.turned (t' := s2.toks) (fun b o hb e => (sb3.2 b hb).trans e) f0 f1 f3 f4 f5, q⟩⟩
end
end Rf
namespace Rf
open PySem L2
open PyProof.Rows (envOfC)
/-! comprehensions whose items may raise -/
def dLcX (it : M → R Itr) (g : TF) (t : M → R Bool) (f : M → R D) (js : List Nat) : M → R D := fun m => (it m).bind fun w m => match clr js m with
  | none => .no
  | some (m, old) => match loopC g t f js w.items [] m with
    | .ok ds m => if allVal js m = true then .ok (.obj .own .lst ds) (rst js old m) else .no
    | .ex c n m => if allVal js m = true then .ex c n (rst js old (clrs js m)) else .no
    | .no => .no
def lcFin (p : List D → M → Prop) (q : Nat → Option Int → M → Prop) : R (List D) → Prop
  | .ok ds m => p ds m
  | .ex c n m => q c n m
  | .no => False
section
variable {X : Cx} {cl : Nat → Addr} {xc : XC} {W : WX} {elt tg iter : Expr} {ifs : List Expr} {scope : Scope} {own : List (Str × Nat)} {pos : Pos} {it : M → R Itr} {g : TF} {t : M → R Bool} {f : M → R D}
/-- the reading of a comprehension -/
theorem lc_readX {js : List Nat} {σ : St} {H : Hp} {Q : VK} (hq : tE X.K cl xc W (dLcX it g t f js) σ H Q) : tLcX W (tI X.K cl xc W it) (tG X.K cl js g) (fun W => tT X.K cl xc W t) (fun W => tE X.K cl xc W f) js σ H Q := by
  obtain ⟨φ, fd, fv, F, m, lv, r, q⟩ := hq
  refine ⟨φ, fd, fv, F, m, lv, r, ?_⟩
  unfold dLcX at q
  cases e : it m with
  | no => simp only [e, R.bind] at q
  | ex c n m1 => simp only [e, R.bind] at q ⊢; exact q
  | ok w m1 =>
    simp only [e, R.bind] at q ⊢
    intro F1 H1 hv J hlen r1 hJ Da hDa
    cases ec : clr js m1 with
    | none => simp only [ec] at q
    | some z =>
      obtain ⟨m2, old⟩ := z
      simp only [ec] at q
      obtain ⟨ov, hol, r2, hs2, hlj, hin, back⟩ := clr_ok js m1 m2 old ec r1
      -- how the loop ends
      obtain ⟨RES, hRES⟩ : ∃ RES, RES = loopC g t f js w.items [] m2 := ⟨_, rfl⟩
      rw [← hRES] at q
      have hfin : lcFin (fun ds m3 => allVal js m3 = true ∧ ∀ (F' H' : Hp) (v : V), Rel X.K cl (psh (.obj .own .lst ds) fd) (psh v fv) F' H' σ (rst js old m3) lv → Q v H')
          (fun c n m3 => allVal js m3 = true ∧ ∀ (F' H' : Hp) (dx : Option Addr), Rel X.K cl fd fv F' H' σ (rst js old (clrs js m3)) lv → ExcAt xc c n dx H' → W (.ref (xc.cls c)) dx σ H') RES := by
        clear hRES
        cases RES with
        | no => exact q
        | ok ds m3 =>
          simp only at q
          show _ ∧ _
          by_cases hav : allVal js m3 = true
          · rw [if_pos hav] at q; exact ⟨hav, q⟩
          · rw [if_neg hav] at q; exact q.elim
        | ex c n m3 =>
          simp only at q
          show _ ∧ _
          by_cases hav : allVal js m3 = true
          · rw [if_pos hav] at q; exact ⟨hav, q⟩
          · rw [if_neg hav] at q; exact q.elim
      clear q
      -- out of an item
      have out : ∀ {c : Nat} {n : Option Int} {mb : M} {σ2 : St} {F3 H3 : Hp} {dx : Option Addr} {acc : List D}, RES = .ex c n mb → wipe σ2 js = wipe σ js → Rel X.K cl (psh (.obj .own .lst acc) (pshs .abs old (pshs .abs w.hold fd))) (psh (.ref Da) (pshs .non ov (pshs .non hv fv))) F3 H3 σ2 mb lv → ExcAt xc c n dx H3 → W (.ref (xc.cls c)) dx σ H3 := by
        intro c n mb σ2 F3 H3 dx acc eR wc r3 hx
        rw [eR] at hfin
        obtain ⟨ha, q⟩ := hfin
        obtain ⟨r4, k4⟩ := clrs_ok js mb r3 (noLen_of ha)
        rw [wc] at r4
        have r7 : Rel X.K cl (pshs .abs old (psh (.obj .own .lst acc) (pshs .abs w.hold fd))) (pshs .non ov (psh (.ref Da) (pshs .non hv fv))) F3 H3 (wipe σ js) (clrs js mb) lv := by
          refine ⟨r4.wf.map (fun a => match a with | .fr (.inl i) => some (.fr (some (.inl i))) | .fr (.inr none) => some (.fr none) | .fr (.inr (some x)) => some (.fr (some (.inr x))) | .l k => some (.l k) | .s k => some (.s k)) (fun a b r h1 h2 => ?_) (fun a r h => ?_) (fun a h => ?_), r4.ll, r4.sl, r4.vs, r4.vl⟩
          · have e := h1.trans h2.symm
            rcases a with (a | (_ | a)) | a | a <;> rcases b with (b | (_ | b)) | b | b <;> first | rfl | (simp at e; done) | (simp at e; subst e; rfl)
          · rcases a with (a | (_ | a)) | a | a <;> (cases h; exact ⟨rfl, rfl⟩)
          · rcases a with (a | (_ | a)) | a | a <;> cases h
        have r8 := back F3 H3 (clrs js mb) r7 (fun j hj => by rw [clrs_sl]; exact (noLen_of ha j hj).1) fun j hj k hk => (noLen_of ha j hj).2 k (k4 j k hk)
        refine q F3 H3 dx ⟨r8.wf.map (fun a => match a with | .fr x => some (.fr (some (.inr x))) | .l k => some (.l k) | .s k => some (.s k)) (fun a b r h1 h2 => ?_) (fun a r h => ?_) (fun a h => ?_), r8.ll, r8.sl, r8.vs, r8.vl⟩ hx
        · have e := h1.trans h2.symm
          rcases a with a | a | a <;> rcases b with b | b | b <;> first | rfl | (simp at e; done) | (simp at e; subst e; rfl)
        · rcases a with a | a | a <;> (cases h; exact ⟨rfl, rfl⟩)
        · rcases a with a | a | a <;> cases h
      -- frames: what is held, what was kept, the new list
      refine ⟨fun i n H => n = w.items.length - i ∧ i ≤ w.items.length ∧ ∃ F m acc, Rel X.K cl (psh (.obj .own .lst acc) (pshs .abs old (pshs .abs w.hold fd))) (psh (.ref Da) (pshs .non ov (pshs .non hv fv))) F H (wipe σ js) m lv ∧ loopC g t f js (w.items.drop i) acc m = RES,
        ⟨w.items.length, by simp, Nat.zero_le _, F1, m2, [], r2.push (r2.wf.newSh (ds := []) (vs := []) ⟨rfl, rfl⟩ hDa rfl), by rw [List.drop_zero]; exact hRES.symm⟩, ?_⟩
      rintro i n H ⟨rfl, hi, F, m, acc, r, ql⟩
      have wh : WF X.K cl F H (pshs .abs w.hold (fun a : Option (Nat ⊕ Ix φ) => match a with | none => .obj .own .lst acc | some (.inl i) => old[i]?.getD .abs | some (.inr x) => cD m fd x)) (pshs .non hv (fun a : Option (Nat ⊕ Ix φ) => match a with | none => .ref Da | some (.inl i) => ov[i]?.getD .non | some (.inr x) => cV (wipe σ js) lv fv x)) := by
        refine r.wf.map (fun a => match a with | .inl i => some (.fr (some (.inr (.inl i)))) | .inr none => some (.fr none) | .inr (some (.inl i)) => some (.fr (some (.inl i))) | .inr (some (.inr (.fr x))) => some (.fr (some (.inr (.inr x)))) | .inr (some (.inr (.l k))) => some (.l k) | .inr (some (.inr (.s k))) => some (.s k)) (fun a b r h1 h2 => ?_) (fun a r h => ?_) (fun a h => ?_)
        · have e := h1.trans h2.symm
          rcases a with a | (_ | (a | (a | a | a))) <;> rcases b with b | (_ | (b | (b | b | b))) <;> first | rfl | (simp at e; done) | (simp at e; subst e; rfl)
        · rcases a with a | (_ | (a | (a | a | a))) <;> (cases h; exact ⟨rfl, rfl⟩)
        · rcases a with a | (_ | (a | (a | a | a))) <;> cases h
      obtain ⟨step, stop⟩ := hJ _ _ _ F H wh
      by_cases hlt : i < w.items.length
      · right
        obtain ⟨go, yld⟩ := step i w.items[i] (List.getElem?_eq_getElem hlt)
        refine ⟨go, fun H' => ∃ F m acc, Rel X.K cl (psh (.obj .own .lst acc) (pshs .abs old (pshs .abs w.hold fd))) (psh (.ref Da) (pshs .non ov (pshs .non hv fv))) F H' (wipe σ js) m lv ∧ loopC g t f js (w.items.drop (i + 1)) acc m = RES, fun H' h => ⟨_, by omega, rfl, hlt, h⟩, fun x H' y => ?_⟩
        obtain ⟨F', w'⟩ := yld x H' y
        rw [List.drop_eq_getElem_cons hlt] at ql
        unfold loopC at ql
        cases eg : g w.items[i] m with
        | none => rw [eg] at ql; have ql : R.no = RES := ql; rw [← ql] at hfin; exact hfin.elim
        | some ma =>
          rw [eg] at ql
          have ql : ((t ma).bind fun b m => if b then (f m).bind fun y m => if acc.length < sizeLine ∧ isAbs y = false ∧ allVal js m = true then loopC g t f js (w.items.drop (i + 1)) (acc ++ [y]) (clrs js m) else .no
            else if allVal js m = true then loopC g t f js (w.items.drop (i + 1)) acc (clrs js m) else .no) = RES := ql
          have rp : Rel X.K cl (psh w.items[i] (psh (.obj .own .lst acc) (pshs .abs old (pshs .abs w.hold fd)))) (psh x (psh (.ref Da) (pshs .non ov (pshs .non hv fv)))) F' H' (wipe σ js) m lv := by
            refine ⟨w'.map (fun a => match a with | .fr none => some none | .fr (some none) => some (some (.inr none)) | .fr (some (some (.inl i))) => some (some (.inr (some (.inl i)))) | .fr (some (some (.inr (.inl i)))) => some (some (.inl i)) | .fr (some (some (.inr (.inr x)))) => some (some (.inr (some (.inr (.fr x))))) | .l k => some (some (.inr (some (.inr (.l k))))) | .s k => some (some (.inr (some (.inr (.s k)))))) (fun a b r h1 h2 => ?_) (fun a r h => ?_) (fun a h => ?_), r.ll, r.sl, r.vs, r.vl⟩
            · have e := h1.trans h2.symm
              rcases a with (_ | (_ | (a | (a | a)))) | a | a <;> rcases b with (_ | (_ | (b | (b | b)))) | b | b <;> first | rfl | (simp at e; done) | (simp at e; subst e; rfl)
            · rcases a with (_ | (_ | (a | (a | a)))) | a | a <;> (cases h; exact ⟨rfl, rfl⟩)
            · rcases a with (_ | (_ | (a | (a | a)))) | a | a <;> cases h
          refine ⟨_, _, _, F', m, lv, w.items[i], ma, rp, eg, fun F2 H2 σ2 chg r2 => ⟨wipe_chg chg, ?_⟩⟩
          have wc := wipe_chg chg
          refine ⟨_, _, _, F2, ma, lv, r2, ?_⟩
          cases et : t ma with
          | no => rw [et] at ql; have ql : R.no = RES := ql; rw [← ql] at hfin; exact hfin.elim
          | ex c n mb => rw [et] at ql; exact fun F3 H3 dx r3 hx => out (show RES = .ex c n mb from ql.symm) wc r3 hx
          | ok b mb =>
            rw [et] at ql
            intro F3 H3 r3
            have ql : (if b then (f mb).bind fun y m => if acc.length < sizeLine ∧ isAbs y = false ∧ allVal js m = true then loopC g t f js (w.items.drop (i + 1)) (acc ++ [y]) (clrs js m) else .no
              else if allVal js mb = true then loopC g t f js (w.items.drop (i + 1)) acc (clrs js mb) else .no) = RES := ql
            cases b with
            | false =>
              rw [if_neg (by decide)] at ql ⊢
              split at ql
              · rename_i ha
                obtain ⟨r4, _⟩ := clrs_ok js mb r3 (noLen_of ha)
                rw [wc] at r4
                exact ⟨F3, _, acc, r4, ql⟩
              · have ql : R.no = RES := ql; rw [← ql] at hfin; exact hfin.elim
            | true =>
              rw [if_pos rfl] at ql ⊢
              refine ⟨_, _, _, F3, mb, lv, r3, ?_⟩
              cases ef : f mb with
              | no => rw [ef] at ql; have ql : R.no = RES := ql; rw [← ql] at hfin; exact hfin.elim
              | ex c n mc => rw [ef] at ql; exact fun F3 H3 dx r3 hx => out (show RES = .ex c n mc from ql.symm) wc r3 hx
              | ok y mc =>
                rw [ef] at ql
                intro F4 H4 yv r4
                have ql : (if acc.length < sizeLine ∧ isAbs y = false ∧ allVal js mc = true then loopC g t f js (w.items.drop (i + 1)) (acc ++ [y]) (clrs js mc) else .no) = RES := ql
                split at ql
                · rename_i ha
                  -- the item joins the list
                  have wq : WF X.K cl F4 H4 (psh y (fun a : Option (Ix _) => match a with | none => D.obj .own .lst acc | some x => cD mc (pshs .abs old (pshs .abs w.hold fd)) x)) (psh yv (fun a : Option (Ix _) => match a with | none => V.ref Da | some x => cV σ2 lv (pshs .non ov (pshs .non hv fv)) x)) := by
                    refine r4.wf.map (fun a => match a with | none => some (.fr none) | some none => some (.fr (some none)) | some (some (.fr x)) => some (.fr (some (some x))) | some (some (.l k)) => some (.l k) | some (some (.s k)) => some (.s k)) (fun a b r h1 h2 => ?_) (fun a r h => ?_) (fun a h => ?_)
                    · have e := h1.trans h2.symm
                      rcases a with _ | (_ | (a | a | a)) <;> rcases b with _ | (_ | (b | b | b)) <;> first | rfl | (simp at e; done) | (simp at e; subst e; rfl)
                    · rcases a with _ | (_ | (a | a | a)) <;> (cases h; exact ⟨rfl, rfl⟩)
                    · rcases a with _ | (_ | (a | a | a)) <;> cases h
                  obtain ⟨a', vs, u, f', va, hu, hk, hvl, ry, put⟩ := wq.mutAt none (p := []) (k := .lst) (ds := acc) dget_nil down_nil
                  have va : V.ref a' = V.ref Da := va
                  cases va
                  have hk : u = .lst vs := hk
                  subst hk
                  refine ⟨vs, hu, by omega, ?_⟩
                  have w5 := put (.lst (vs ++ [yv])) .lst (acc ++ [y]) (vs ++ [yv]) rfl fun fps rs nd => ⟨fps ++ f', rs.app (Reps.one ry), nd, fun b h => h⟩
                  rw [dput_nil] at w5
                  have r5 : Rel X.K cl (psh (.obj .own .lst (acc ++ [y])) (pshs .abs old (pshs .abs w.hold fd))) (psh (.ref Da) (pshs .non ov (pshs .non hv fv))) F4 (upd H4 Da (.lst (vs ++ [yv]))) σ2 mc lv := by
                    refine ⟨w5.map (fun a => match a with | .fr none => some none | .fr (some x) => some (some (.fr x)) | .l k => some (some (.l k)) | .s k => some (some (.s k))) (fun a b r h1 h2 => ?_) (fun a r h => ?_) (fun a h => ?_), r4.ll, r4.sl, r4.vs, r4.vl⟩
                    · have e := h1.trans h2.symm
                      rcases a with (_ | a) | a | a <;> rcases b with (_ | b) | b | b <;> first | rfl | (simp at e; done) | (simp at e; subst e; rfl)
                    · rcases a with (_ | a) | a | a
                      · cases h; exact ⟨fset_same.symm, rfl⟩
                      · cases h; exact ⟨by rw [fset_ne (Option.some_ne_none _)]; rfl, rfl⟩
                      · cases h; exact ⟨by rw [fset_ne (Option.some_ne_none _)]; rfl, rfl⟩
                      · cases h; exact ⟨by rw [fset_ne (Option.some_ne_none _)]; rfl, rfl⟩
                    · rcases a with (_ | a) | a | a <;> cases h
                  obtain ⟨r6, _⟩ := clrs_ok js mc r5 (noLen_of ha.2.2)
                  rw [wc] at r6
                  exact ⟨F4, _, acc ++ [y], r6, ql⟩
                · have ql : R.no = RES := ql; rw [← ql] at hfin; exact hfin.elim
      · left
        have ei : i = w.items.length := by omega
        subst ei
        rw [List.drop_length] at ql
        have ql : R.ok acc m = RES := by rw [← ql]; unfold loopC; rfl
        rw [← ql] at hfin
        obtain ⟨hav, q⟩ := hfin
        refine ⟨stop, q F H (.ref Da) ?_⟩
        -- what was kept goes back, what was held goes
        have r7 : Rel X.K cl (pshs .abs old (psh (.obj .own .lst acc) (pshs .abs w.hold fd))) (pshs .non ov (psh (.ref Da) (pshs .non hv fv))) F H (wipe σ js) m lv := by
          refine ⟨r.wf.map (fun a => match a with | .fr (.inl i) => some (.fr (some (.inl i))) | .fr (.inr none) => some (.fr none) | .fr (.inr (some x)) => some (.fr (some (.inr x))) | .l k => some (.l k) | .s k => some (.s k)) (fun a b r h1 h2 => ?_) (fun a r h => ?_) (fun a h => ?_), r.ll, r.sl, r.vs, r.vl⟩
          · have e := h1.trans h2.symm
            rcases a with (a | (_ | a)) | a | a <;> rcases b with (b | (_ | b)) | b | b <;> first | rfl | (simp at e; done) | (simp at e; subst e; rfl)
          · rcases a with (a | (_ | a)) | a | a <;> (cases h; exact ⟨rfl, rfl⟩)
          · rcases a with (a | (_ | a)) | a | a <;> cases h
        have r8 := back F H m r7 (fun j hj => (noLen_of hav j hj).1) fun j hj => (noLen_of hav j hj).2
        refine ⟨r8.wf.map (fun a => match a with | .fr none => some (.fr none) | .fr (some x) => some (.fr (some (.inr x))) | .l k => some (.l k) | .s k => some (.s k)) (fun a b r h1 h2 => ?_) (fun a r h => ?_) (fun a h => ?_), r8.ll, r8.sl, r8.vs, r8.vl⟩
        · have e := h1.trans h2.symm
          rcases a with (_ | a) | a | a <;> rcases b with (_ | b) | b | b <;> first | rfl | (simp at e; done) | (simp at e; subst e; rfl)
        · rcases a with (_ | a) | a | a <;> (cases h; exact ⟨rfl, rfl⟩)
        · rcases a with (_ | a) | a | a <;> cases h
theorem tsx_nil : PTs X [] (tT X.K cl xc W tYesD) := ⟨fun pins s σ H Q I ⟨_, _, _, _, _, _, r, q⟩ => pts_nil.run pins s σ H Q I (q _ _ r)⟩
theorem tsx_one {c : Expr} (h : PTd X cl xc W c t) : PTs X [c] (tT X.K cl xc W t) := pts_one h
/-- what an item's derivation is to show -/
abbrev LcB (X : Cx) (cl : Nat → Addr) (xc : XC) (tg elt : Expr) (ifs : List Expr) (scope : Scope) (js : List Nat) (g : TF) (t : M → R Bool) (f : M → R D) : Prop :=
  ∀ (W' : WX) (s : Shared) (H : Hp) (C : Addr) (cs : List (Str × Addr)) (fp : List Addr) (xe : Value → Shared → Prop), Takes (blkE X s H scope (compEnvC scope cs C X.env) fp xe) W' →
    PG (blkE X s H scope (compEnvC scope cs C X.env) fp xe) tg (tG X.K cl js g) ∧ PTs (blkE X s H scope (compEnvC scope cs C X.env) fp xe) ifs (tT X.K cl xc W' t) ∧ PEd (blkE X s H scope (compEnvC scope cs C X.env) fp xe) cl xc W' elt f
theorem d_lcx (hs0 : X.stack = X.env :: X.outer) (hf0 : X.env.frame = some X.env.locals) (tk : Takes X W) (hc : X.calm = true) (nd : X.N.Nodup) (own : List (Str × Nat)) (hi : PI X tg iter (tI X.K cl xc W it)) (hb : LcB X cl xc tg elt ifs scope (own.map (·.2)) g t f)
    (ok : blkC X.N X.env.scope scope own = true := by kernel_rfl) (hs : ∀ x, foldedSetIterable iter X.env x = pure x := by exact fun _ => by kernel_rfl) : PEd X cl xc W (.ListComp elt [⟨tg, iter, ifs, 0⟩] scope pos) (dLcX it g t f (own.map (·.2))) :=
  pe_imp (pe_lcX (tt := fun W => tT X.K cl xc W t) (te := fun W => tE X.K cl xc W f) hs0 hf0 tk hc nd hi (blkOk_by ok) hb hs) fun _ _ _ h => lc_readX h
theorem st_lcx {py spos : Pos} {y : Str} (hs0 : X.stack = X.env :: X.outer) (hf0 : X.env.frame = some X.env.locals) (tk : Takes X W) (hc : X.calm = true) (nd : X.N.Nodup) (i : Nat) (own : List (Str × Nat)) (hi : PI X tg iter (tI X.K cl xc W it)) (hb : LcB X cl xc tg elt ifs scope (own.map (·.2)) g t f)
    (hy : X.N[i]? = some y := by kernel_rfl) (hk : X.env.scope.kind = .function := by kernel_rfl) (hyl : X.env.scope.names.lookup y = some .local := by kernel_rfl) (hl : (py.line == pos.line) = true := by kernel_rfl) (ha : (scope.names.any fun (n, k) => n == y && (k == .local || k == .cell)) = false := by kernel_rfl)
    (ok : blkC X.N X.env.scope scope own = true := by kernel_rfl) (hs : ∀ x, foldedSetIterable iter X.env x = pure x := by exact fun _ => by kernel_rfl) : PSd X cl xc W (.Assign [.Name y py] (.ListComp elt [⟨tg, iter, ifs, 0⟩] scope pos) spos) (dAsg (gNm i) (dLcX it g t f (own.map (·.2)))) :=
  ps_imp (ps_setLcX (tt := fun W => tT X.K cl xc W t) (te := fun W => tE X.K cl xc W f) hs0 hf0 tk hc nd hy hyl (sw_true hk hyl hl ha) hi (blkOk_by ok) hb hs) fun Dn σ H hq => lc_readX (tS_E hq fun φ fd fv F H1 m lv x d r q => by
    cases e : gNm i d m with
    | none => simp only [e] at q; exact q.elim
    | some m1 =>
      simp only [e] at q
      unfold gNm at e
      split at e
      · rename_i hi; cases e
        exact q F H1 _ (r.store hi)
      · cases e)
end
@[simp] theorem dLcX_ap (it : M → R Itr) (g : TF) (t : M → R Bool) (f : M → R D) (js : List Nat) (m : M) : dLcX it g t f js m = ((it m).bind fun w m => match clr js m with
  | none => .no
  | some (m, old) => match loopC g t f js w.items [] m with
    | .ok ds m => if allVal js m = true then .ok (.obj .own .lst ds) (rst js old m) else .no
    | .ex c n m => if allVal js m = true then .ex c n (rst js old (clrs js m)) else .no
    | .no => .no) := rfl
end Rf
namespace Rf
open PySem PySem.Spec L2
open PyProof.Rows (envOfC)
/-! zip objects held by a name, then walked by a comprehension -/
def zipH (H : Hp) (z TI TO i1 i2 a b : Addr) : Hp := fun c =>
  if c = z then some (.ext fun h => IsZip h z TI TO .none) else if c = TI then some (.ext fun h => IsPair h TI (.ref i1) (.ref i2)) else if c = TO then some (.ext fun h => ∃ x y, IsPair h TO x y)
  else if c = i1 then some (.ext fun h => h.IsListIter i1 a 0) else if c = i2 then some (.ext fun h => h.IsListIter i2 b 0) else H c
structure ZipAt (X : Cx) (z TI TO i1 i2 a b : Addr) (H0 H : Hp) : Prop where
  e : H = zipH H0 z TI TO i1 i2 a b
  fr : ∀ c, c = z ∨ c = TI ∨ c = TO ∨ c = i1 ∨ c = i2 → H0 c = none ∧ X.s_0.heap.objs.size ≤ c
  ap : ZipApart z TI TO i1 i2 a b
section
variable {H : Hp} {z TI TO i1 i2 a b c : Addr}
theorem zipH_ne (h : ¬ (c = z ∨ c = TI ∨ c = TO ∨ c = i1 ∨ c = i2)) : zipH H z TI TO i1 i2 a b c = H c := by
  unfold zipH
  rw [if_neg fun e => h (.inl e), if_neg fun e => h (.inr (.inl e)), if_neg fun e => h (.inr (.inr (.inl e))), if_neg fun e => h (.inr (.inr (.inr (.inl e)))), if_neg fun e => h (.inr (.inr (.inr (.inr e))))]
theorem zipH_some {o : HO} (h : zipH H z TI TO i1 i2 a b c = some o) : (H c = some o ∧ ¬ (c = z ∨ c = TI ∨ c = TO ∨ c = i1 ∨ c = i2)) ∨ ∃ φ, o = .ext φ := by
  unfold zipH at h
  by_cases h1 : c = z
  · rw [if_pos h1] at h; exact .inr ⟨_, (Option.some.inj h).symm⟩
  rw [if_neg h1] at h
  by_cases h2 : c = TI
  · rw [if_pos h2] at h; exact .inr ⟨_, (Option.some.inj h).symm⟩
  rw [if_neg h2] at h
  by_cases h3 : c = TO
  · rw [if_pos h3] at h; exact .inr ⟨_, (Option.some.inj h).symm⟩
  rw [if_neg h3] at h
  by_cases h4 : c = i1
  · rw [if_pos h4] at h; exact .inr ⟨_, (Option.some.inj h).symm⟩
  rw [if_neg h4] at h
  by_cases h5 : c = i2
  · rw [if_pos h5] at h; exact .inr ⟨_, (Option.some.inj h).symm⟩
  rw [if_neg h5] at h
  exact .inl ⟨h, by rintro (e | e | e | e | e) <;> contradiction⟩
theorem zipH_z : zipH H z TI TO i1 i2 a b z = some (.ext fun h => IsZip h z TI TO .none) := by unfold zipH; rw [if_pos rfl]
theorem zipH_TI (D : ZipApart z TI TO i1 i2 a b) : zipH H z TI TO i1 i2 a b TI = some (.ext fun h => IsPair h TI (.ref i1) (.ref i2)) := by unfold zipH; rw [if_neg D.TIz, if_pos rfl]
theorem zipH_TO (D : ZipApart z TI TO i1 i2 a b) : zipH H z TI TO i1 i2 a b TO = some (.ext fun h => ∃ x y, IsPair h TO x y) := by unfold zipH; rw [if_neg D.TOz, if_neg (Ne.symm D.TITO), if_pos rfl]
theorem zipH_i1 (D : ZipApart z TI TO i1 i2 a b) : zipH H z TI TO i1 i2 a b i1 = some (.ext fun h => h.IsListIter i1 a 0) := by unfold zipH; rw [if_neg D.i1z, if_neg (Ne.symm D.TIi1), if_neg (Ne.symm D.TOi1), if_pos rfl]
theorem zipH_i2 (D : ZipApart z TI TO i1 i2 a b) : zipH H z TI TO i1 i2 a b i2 = some (.ext fun h => h.IsListIter i2 b 0) := by unfold zipH; rw [if_neg D.i2z, if_neg (Ne.symm D.TIi2), if_neg (Ne.symm D.TOi2), if_neg (Ne.symm D.i12), if_pos rfl]
end
section
variable {X : Cx} {e e2 : Expr} {ta : TA} {p pos tp : Pos} {elts : List Expr} {kk : Nat}
theorem pe_zipV (hg : Gl X "zip") (hm : X.mg "zip" = none) (ha : PA X [e, e2] ta) (hs : starEach [e, e2] X.env = (false, eval e X.env) :: starEach [e2] X.env) (hpl : (backTo pos (starEach [e2] X.env)).any (·.1) = false) :
    PE X (.Call (.Name "zip" p) [e, e2] [] pos) (fun σ H Q => ta σ H fun vs H1 => ∃ a b xs ys, vs = [.ref a, .ref b] ∧ SqL X.K H1 a xs ∧ SqL X.K H1 b ys ∧ ∀ z TI TO i1 i2 H', ZipAt X z TI TO i1 i2 a b H1 H' → Q (.ref z) H') := by
  refine ⟨fun pins s σ H R I h => ?_⟩
  refine PyProof.Rows.Call_ (ld_blt I hg hm PyProof.Rows.boot_zip (PyProof.Rows.callWith_type1 (thn (ha.run pos pins s σ H _ I h) fun us s1 h1 => ?_) hs hpl))
  obtain ⟨vs, H1, I1, r1, a, b, xs, ys, rfl, hqx, hqy, q⟩ := h1
  cases r1 with
  | cons r rr =>
    cases rr with
    | cons r' rr =>
      cases rr
      cases r
      cases r'
      obtain ⟨its, rv, p1, _⟩ := I1.list hqx
      obtain ⟨its2, rv2, p2, _⟩ := I1.list hqy
      refine call_zip_2 p1.isList p2.isList fun h' hz hTI hTO hi1 hi2 hsz hk => ?_
      have D := PySem.W.ktu_apart s1.heap.objs.size a b p1.lt p2.lt
      generalize hn : s1.heap.objs.size = n at *
      have ge : ∀ c, c = n + 4 ∨ c = n + 2 ∨ c = n + 3 ∨ c = n ∨ c = n + 1 → n ≤ c := by omega
      have old : ∀ {c : Addr} {o : Obj}, s1.heap.get? c = some o → ¬ (c = n + 4 ∨ c = n + 2 ∨ c = n + 3 ∨ c = n ∨ c = n + 1) := fun {c o} e z => by
        exact absurd (show c < n from hn ▸ Heap.lt_size e) (Nat.not_lt.mpr (ge c z))
      have oldH : ∀ {c : Addr} {o : HO}, H1 c = some o → zipH H1 (n + 4) (n + 2) (n + 3) n (n + 1) a b c = some o := fun {c o} e => by
        rw [zipH_ne fun z => by
          exact absurd (show c < n from hn ▸ I1.hok.lt e) (Nat.not_lt.mpr (ge c z))]
        exact e
      have ext : ∀ {c : Addr} {φ : Heap → Prop}, φ h' → (∃ o, h'.get? c = some o) → (∀ x y : Heap, φ x → (∀ o, x.get? c = some o → y.get? c = some o) → φ y) → ObjOk X.prog X.w (zipH H1 (n + 4) (n + 2) (n + 3) n (n + 1) a b) h' c (.ext φ) := fun x y z => ⟨x, y, z⟩
      have J : Inv X pins σ (zipH H1 (n + 4) (n + 2) (n + 3) n (n + 1) a b) { s1 with heap := h', toks := s1.toks } := by
        refine I1.un (t' := s1.toks) ⟨fun c o e _ _ _ => hk c o e, fun c o e _ _ _ => ⟨o.slots, hk c o e⟩, fun c o e n _ => by rw [zipH_ne (old e)]; exact n, fun c o e _ => ⟨o, hk c o e⟩, fun c xs e => oldH e, fun c o u e => oldH e, fun c ps e => ⟨#[], by rw [oldH e]; simp⟩⟩ fun c o e => ?_
        by_cases h1 : c = n + 4
        · subst h1
          rw [zipH_z] at e
          cases e
          exact ext hz ⟨_, hz⟩ fun x y q k => k _ q
        by_cases h2 : c = n + 2
        · subst h2
          rw [zipH_TI D] at e
          cases e
          exact ext hTI ⟨_, hTI⟩ fun x y q k => k _ q
        by_cases h3 : c = n + 3
        · subst h3
          rw [zipH_TO D] at e
          cases e
          exact ext ⟨_, _, hTO⟩ ⟨_, hTO⟩ fun x y ⟨u, v, q⟩ k => ⟨u, v, k _ q⟩
        by_cases h4 : c = n
        · subst h4
          rw [zipH_i1 D] at e
          cases e
          obtain ⟨o, e, r⟩ := id hi1
          exact ext hi1 ⟨o, e⟩ fun x y q k => q.at k
        by_cases h5 : c = n + 1
        · subst h5
          rw [zipH_i2 D] at e
          cases e
          obtain ⟨o, e, r⟩ := id hi2
          exact ext hi2 ⟨o, e⟩ fun x y q k => q.at k
        rw [zipH_ne (by rintro (q | q | q | q | q) <;> contradiction)] at e
        exact (I1.hok c o e).stay (fun d u _ q => hk d u q) (fun d q => oldH q) fun d ys q => oldH q
      refine ⟨.ref (n + 4), _, J, rfl, q _ _ _ _ _ _ ⟨rfl, fun c hc => ⟨I1.hok.fresh (by rw [hn]; exact ge c hc), Nat.le_trans I1.sz (by rw [hn]; exact ge c hc)⟩, D⟩⟩
/-- a zip that stands in a slot is walked -/
theorem pi_zipN {j : Nat} {y : Str} (hN : X.N[j]? = some y) (hv : Vis X.env.scope y) (h1 : (y == ("__debug__" : Str)) = false) (h2 : (y == ("__classdict__" : Str)) = false) :
    PI X (.Tuple elts kk tp) (.Name y pos) (fun σ H R => ∃ z TI TO i1 i2 a b H0, σ[j]? = some (some (.ref z)) ∧ ZipAt X z TI TO i1 i2 a b H0 H ∧ R (Itz X.K a b) H0) := by
  refine ⟨fun pins s σ H R I h => ?_⟩
  obtain ⟨z, TI, TO, i1, i2, a, b, H0, hσ, ZA, hR⟩ := h
  refine thn ((pe_var hN hv h1 h2).run pins s σ H (fun v H' => v = .ref z ∧ H' = H) I ⟨.ref z, hσ, rfl, rfl⟩) fun u s1 h1 => ?_
  obtain ⟨v, H1, I1, r, rfl, rfl⟩ := h1
  obtain rfl : u = Value.ref z := r
  obtain ⟨eH, fr, D⟩ := ZA
  subst eH
  have hz := (I1.hok z _ zipH_z).1
  have hTI := (I1.hok TI _ (zipH_TI D)).1
  have hTO := (I1.hok TO _ (zipH_TO D)).1
  have hi1 := (I1.hok i1 _ (zipH_i1 D)).1
  have hi2 := (I1.hok i2 _ (zipH_i2 D)).1
  have tr : ∀ c, c = z ∨ c = TI ∨ c = TO ∨ c = i1 ∨ c = i2 → ∃ o, zipH H0 z TI TO i1 i2 a b c = some o := by
    rintro c (rfl | rfl | rfl | rfl | rfl)
    · exact ⟨_, zipH_z⟩
    · exact ⟨_, zipH_TI D⟩
    · exact ⟨_, zipH_TO D⟩
    · exact ⟨_, zipH_i1 D⟩
    · exact ⟨_, zipH_i2 D⟩
  have dn : ∀ c, zipH H0 z TI TO i1 i2 a b c = none → H0 c = none := fun c e => by
    by_cases hc : c = z ∨ c = TI ∨ c = TO ∨ c = i1 ∨ c = i2
    · exact (fr c hc).1
    · rw [zipH_ne hc] at e; exact e
  have up : ∀ {c : Addr} {o : HO}, H0 c = some o → zipH H0 z TI TO i1 i2 a b c = some o := fun {c o} e => by
    by_cases hc : c = z ∨ c = TI ∨ c = TO ∨ c = i1 ∨ c = i2
    · rw [(fr c hc).1] at e; cases e
    · rw [zipH_ne hc]; exact e
  have dnS : ∀ {c : Addr} {o : HO}, zipH H0 z TI TO i1 i2 a b c = some o → (∀ φ, o ≠ .ext φ) → H0 c = some o := fun {c o} e hne => by
    rcases zipH_some e with q | ⟨φ, q⟩
    · exact q.1
    · exact absurd q (hne φ)
  have I0 : Inv X pins σ H0 s1 := by
    have un := I1.base
    refine ⟨I1.ok, I1.os, I1.bare, ⟨un.keep, un.slot, fun c o e n hx => dn c (un.free c o e n hx), un.there, fun c xs e => dnS (un.tups c xs e) fun φ => by simp, fun c o u e => dnS (un.frzs c o u e) fun φ => by simp, fun c ps e => ?_⟩, I1.loc, I1.cell, dn _ I1.free, fun x c e => dn _ (I1.freeC x c e), fun q hq => ?_, fun c o e => ?_, I1.len⟩
    · obtain ⟨more, q⟩ := un.tbls c ps e
      exact ⟨more, dnS q fun φ => by simp⟩
    · obtain ⟨p1, p2, p3⟩ := I1.pin q hq
      exact ⟨p1, dn _ p2, p3⟩
    · exact (I1.hok c o (up e)).stay (fun d u _ q => q) (fun d q => dnS q fun φ => by simp) fun d ys q => dnS q fun φ => by simp
  refine wpAny_pyIter_zip hz ?_
  refine ⟨z, [z, TI, TO, i1, i2], _, _, H0, rfl, I0, turn_zip D, ⟨hz, hTI, hTO, hi1, hi2⟩, fun c hc => ?_, hR⟩
  have hc : c = z ∨ c = TI ∨ c = TO ∨ c = i1 ∨ c = i2 := by simpa using hc
  obtain ⟨o, ho⟩ := tr c hc
  refine ⟨(fr c hc).1, fun e => ?_, fun e => ?_, .inr (fr c hc).2, fun x d e ed => ?_, fun q hq e => ?_⟩
  · have := I1.free
    rw [← e, ho] at this
    cases this
  · obtain ⟨_, o', ho', _⟩ := I1.funs.mem e
    by_cases h0 : ∃ o0, X.s_0.heap.get? c = some o0
    · obtain ⟨o0, e0⟩ := h0
      exact absurd (Heap.lt_size e0) (Nat.not_lt.mpr (fr c hc).2)
    · obtain ⟨_, o0, e0, _⟩ := I1.ok.funs.mem e
      exact h0 ⟨o0, e0⟩
  · have := I1.freeC x d e
    rw [ed, ho] at this
    cases this
  · have := (I1.pin q hq).2.1
    rw [e, ho] at this
    cases this
end
section
variable {X : Cx} {cl : Nat → Addr} {xc : XC} {W : WX} {g : TF} {t : M → R Bool} {f : M → R D}
/-- what a comprehension owes behind its iterator -/
def lcQ (K : PySem.W.Frag) (cl : Nat → Addr) {φ : Type} (fd : φ → D) (fv : φ → V) (σ : St) (lv : List V) (g : TF) (t : M → R Bool) (f : M → R D) (js : List Nat) (items : List D) (m1 : M) (Q : VK) : Prop := match clr js m1 with
  | none => False
  | some (m, old) => match quiet (loopC g t f js items [] m) with
    | .ok ds m => if allVal js m = true then ∀ (F' H' : Hp) (v : V), Rel K cl (psh (.obj .own .lst ds) fd) (psh v fv) F' H' σ (rst js old m) lv → Q v H' else False
    | _ => False
theorem lc_body {js : List Nat} {σ : St} {F1 H1 : Hp} {Q : VK} {φ : Type} {fd : φ → D} {fv : φ → V} {m1 : M} {lv : List V} {hold items : List D} {hv : List V} {J : It} (hlen : hv.length = hold.length) (r1 : Rel X.K cl (pshs .abs hold fd) (pshs .non hv fv) F1 H1 σ m1 lv) (hJ : ItS X.K cl J hold hv items)
    (q : lcQ X.K cl fd fv σ lv g t f js items m1 Q) : tLc (fun _ _ R => R J H1) (tG X.K cl js g) (tT X.K cl xc W0 t) (tE X.K cl xc W0 f) js σ H1 Q := by
    unfold lcQ at q
    intro Da hDa
    cases ec : clr js m1 with
    | none => simp only [ec] at q
    | some z =>
      obtain ⟨m2, old⟩ := z
      simp only [ec] at q
      obtain ⟨ov, hol, r2, hs2, hlj, hin, back⟩ := clr_ok js m1 m2 old ec r1
      -- the loop ends well
      cases el : quiet (loopC g t f js items [] m2) with
      | no => simp only [el] at q
      | ex c n m3 => cases h : loopC g t f js items [] m2 <;> simp [h, quiet] at el
      | ok ds m3 =>
        simp only [el] at q
        have el := quiet_ok el
        by_cases hav : allVal js m3 = true
        case neg => rw [if_neg hav] at q; exact q.elim
        rw [if_pos hav] at q
        -- frames: what is held, what was kept, the new list
        refine ⟨fun i n H => n = items.length - i ∧ i ≤ items.length ∧ ∃ F m acc, Rel X.K cl (psh (.obj .own .lst acc) (pshs .abs old (pshs .abs hold fd))) (psh (.ref Da) (pshs .non ov (pshs .non hv fv))) F H (wipe σ js) m lv ∧ loopC g t f js (items.drop i) acc m = .ok ds m3,
          ⟨items.length, by simp, Nat.zero_le _, F1, m2, [], r2.push (r2.wf.newSh (ds := []) (vs := []) ⟨rfl, rfl⟩ hDa rfl), by simpa using el⟩, ?_⟩
        rintro i n H ⟨rfl, hi, F, m, acc, r, ql⟩
        have wh : WF X.K cl F H (pshs .abs hold (fun a : Option (Nat ⊕ Ix φ) => match a with | none => .obj .own .lst acc | some (.inl i) => old[i]?.getD .abs | some (.inr x) => cD m fd x)) (pshs .non hv (fun a : Option (Nat ⊕ Ix φ) => match a with | none => .ref Da | some (.inl i) => ov[i]?.getD .non | some (.inr x) => cV (wipe σ js) lv fv x)) := by
          refine r.wf.map (fun a => match a with | .inl i => some (.fr (some (.inr (.inl i)))) | .inr none => some (.fr none) | .inr (some (.inl i)) => some (.fr (some (.inl i))) | .inr (some (.inr (.fr x))) => some (.fr (some (.inr (.inr x)))) | .inr (some (.inr (.l k))) => some (.l k) | .inr (some (.inr (.s k))) => some (.s k)) (fun a b r h1 h2 => ?_) (fun a r h => ?_) (fun a h => ?_)
          · have e := h1.trans h2.symm
            rcases a with a | (_ | (a | (a | a | a))) <;> rcases b with b | (_ | (b | (b | b | b))) <;> first | rfl | (simp at e; done) | (simp at e; subst e; rfl)
          · rcases a with a | (_ | (a | (a | a | a))) <;> (cases h; exact ⟨rfl, rfl⟩)
          · rcases a with a | (_ | (a | (a | a | a))) <;> cases h
        obtain ⟨step, stop⟩ := hJ _ _ _ F H wh
        by_cases hlt : i < items.length
        · right
          obtain ⟨go, yld⟩ := step i items[i] (List.getElem?_eq_getElem hlt)
          refine ⟨go, fun H' => ∃ F m acc, Rel X.K cl (psh (.obj .own .lst acc) (pshs .abs old (pshs .abs hold fd))) (psh (.ref Da) (pshs .non ov (pshs .non hv fv))) F H' (wipe σ js) m lv ∧ loopC g t f js (items.drop (i + 1)) acc m = .ok ds m3, fun H' h => ⟨_, by omega, rfl, hlt, h⟩, fun x H' y => ?_⟩
          obtain ⟨F', w'⟩ := yld x H' y
          rw [List.drop_eq_getElem_cons hlt] at ql
          unfold loopC at ql
          cases eg : g items[i] m with
          | none => rw [eg] at ql; cases ql
          | some ma =>
            rw [eg] at ql
            have ql : ((t ma).bind fun b m => if b then (f m).bind fun y m => if acc.length < sizeLine ∧ isAbs y = false ∧ allVal js m = true then loopC g t f js (items.drop (i + 1)) (acc ++ [y]) (clrs js m) else .no
              else if allVal js m = true then loopC g t f js (items.drop (i + 1)) acc (clrs js m) else .no) = .ok ds m3 := ql
            have rp : Rel X.K cl (psh items[i] (psh (.obj .own .lst acc) (pshs .abs old (pshs .abs hold fd)))) (psh x (psh (.ref Da) (pshs .non ov (pshs .non hv fv)))) F' H' (wipe σ js) m lv := by
              refine ⟨w'.map (fun a => match a with | .fr none => some none | .fr (some none) => some (some (.inr none)) | .fr (some (some (.inl i))) => some (some (.inr (some (.inl i)))) | .fr (some (some (.inr (.inl i)))) => some (some (.inl i)) | .fr (some (some (.inr (.inr x)))) => some (some (.inr (some (.inr (.fr x))))) | .l k => some (some (.inr (some (.inr (.l k))))) | .s k => some (some (.inr (some (.inr (.s k)))))) (fun a b r h1 h2 => ?_) (fun a r h => ?_) (fun a h => ?_), r.ll, r.sl, r.vs, r.vl⟩
              · have e := h1.trans h2.symm
                rcases a with (_ | (_ | (a | (a | a)))) | a | a <;> rcases b with (_ | (_ | (b | (b | b)))) | b | b <;> first | rfl | (simp at e; done) | (simp at e; subst e; rfl)
              · rcases a with (_ | (_ | (a | (a | a)))) | a | a <;> (cases h; exact ⟨rfl, rfl⟩)
              · rcases a with (_ | (_ | (a | (a | a)))) | a | a <;> cases h
            refine ⟨_, _, _, F', m, lv, items[i], ma, rp, eg, fun F2 H2 σ2 chg r2 => ⟨wipe_chg chg, ?_⟩⟩
            have wc := wipe_chg chg
            refine ⟨_, _, _, F2, ma, lv, r2, ?_⟩
            cases et : t ma with
            | no => rw [et] at ql; cases ql
            | ex c n mb => rw [et] at ql; cases ql
            | ok b mb =>
              rw [et] at ql
              intro F3 H3 r3
              have ql : (if b then (f mb).bind fun y m => if acc.length < sizeLine ∧ isAbs y = false ∧ allVal js m = true then loopC g t f js (items.drop (i + 1)) (acc ++ [y]) (clrs js m) else .no
                else if allVal js mb = true then loopC g t f js (items.drop (i + 1)) acc (clrs js mb) else .no) = .ok ds m3 := ql
              cases b with
              | false =>
                rw [if_neg (by decide)] at ql ⊢
                split at ql
                · rename_i ha
                  obtain ⟨r4, _⟩ := clrs_ok js mb r3 (noLen_of ha)
                  rw [wc] at r4
                  exact ⟨F3, _, acc, r4, ql⟩
                · cases ql
              | true =>
                rw [if_pos rfl] at ql ⊢
                refine ⟨_, _, _, F3, mb, lv, r3, ?_⟩
                cases ef : f mb with
                | no => rw [ef] at ql; cases ql
                | ex c n mc => rw [ef] at ql; cases ql
                | ok y mc =>
                  rw [ef] at ql
                  intro F4 H4 yv r4
                  have ql : (if acc.length < sizeLine ∧ isAbs y = false ∧ allVal js mc = true then loopC g t f js (items.drop (i + 1)) (acc ++ [y]) (clrs js mc) else .no) = .ok ds m3 := ql
                  split at ql
                  · rename_i ha
                    -- the item joins the list
                    have wq : WF X.K cl F4 H4 (psh y (fun a : Option (Ix _) => match a with | none => D.obj .own .lst acc | some x => cD mc (pshs .abs old (pshs .abs hold fd)) x)) (psh yv (fun a : Option (Ix _) => match a with | none => V.ref Da | some x => cV σ2 lv (pshs .non ov (pshs .non hv fv)) x)) := by
                      refine r4.wf.map (fun a => match a with | none => some (.fr none) | some none => some (.fr (some none)) | some (some (.fr x)) => some (.fr (some (some x))) | some (some (.l k)) => some (.l k) | some (some (.s k)) => some (.s k)) (fun a b r h1 h2 => ?_) (fun a r h => ?_) (fun a h => ?_)
                      · have e := h1.trans h2.symm
                        rcases a with _ | (_ | (a | a | a)) <;> rcases b with _ | (_ | (b | b | b)) <;> first | rfl | (simp at e; done) | (simp at e; subst e; rfl)
                      · rcases a with _ | (_ | (a | a | a)) <;> (cases h; exact ⟨rfl, rfl⟩)
                      · rcases a with _ | (_ | (a | a | a)) <;> cases h
                    obtain ⟨a', vs, u, f', va, hu, hk, hvl, ry, put⟩ := wq.mutAt none (p := []) (k := .lst) (ds := acc) dget_nil down_nil
                    have va : V.ref a' = V.ref Da := va
                    cases va
                    have hk : u = .lst vs := hk
                    subst hk
                    refine ⟨vs, hu, by omega, ?_⟩
                    have w5 := put (.lst (vs ++ [yv])) .lst (acc ++ [y]) (vs ++ [yv]) rfl fun fps rs nd => ⟨fps ++ f', rs.app (Reps.one ry), nd, fun b h => h⟩
                    rw [dput_nil] at w5
                    have r5 : Rel X.K cl (psh (.obj .own .lst (acc ++ [y])) (pshs .abs old (pshs .abs hold fd))) (psh (.ref Da) (pshs .non ov (pshs .non hv fv))) F4 (upd H4 Da (.lst (vs ++ [yv]))) σ2 mc lv := by
                      refine ⟨w5.map (fun a => match a with | .fr none => some none | .fr (some x) => some (some (.fr x)) | .l k => some (some (.l k)) | .s k => some (some (.s k))) (fun a b r h1 h2 => ?_) (fun a r h => ?_) (fun a h => ?_), r4.ll, r4.sl, r4.vs, r4.vl⟩
                      · have e := h1.trans h2.symm
                        rcases a with (_ | a) | a | a <;> rcases b with (_ | b) | b | b <;> first | rfl | (simp at e; done) | (simp at e; subst e; rfl)
                      · rcases a with (_ | a) | a | a
                        · cases h; exact ⟨fset_same.symm, rfl⟩
                        · cases h; exact ⟨by rw [fset_ne (Option.some_ne_none _)]; rfl, rfl⟩
                        · cases h; exact ⟨by rw [fset_ne (Option.some_ne_none _)]; rfl, rfl⟩
                        · cases h; exact ⟨by rw [fset_ne (Option.some_ne_none _)]; rfl, rfl⟩
                      · rcases a with (_ | a) | a | a <;> cases h
                    obtain ⟨r6, _⟩ := clrs_ok js mc r5 (noLen_of ha.2.2)
                    rw [wc] at r6
                    exact ⟨F4, _, acc ++ [y], r6, ql⟩
                  · cases ql
        · left
          have ei : i = items.length := by omega
          subst ei
          rw [List.drop_length] at ql
          simp only [loopC, R.ok.injEq] at ql
          obtain ⟨rfl, rfl⟩ := ql
          refine ⟨stop, q F H (.ref Da) ?_⟩
          -- what was kept goes back, what was held goes
          have r7 : Rel X.K cl (pshs .abs old (psh (.obj .own .lst acc) (pshs .abs hold fd))) (pshs .non ov (psh (.ref Da) (pshs .non hv fv))) F H (wipe σ js) m lv := by
            refine ⟨r.wf.map (fun a => match a with | .fr (.inl i) => some (.fr (some (.inl i))) | .fr (.inr none) => some (.fr none) | .fr (.inr (some x)) => some (.fr (some (.inr x))) | .l k => some (.l k) | .s k => some (.s k)) (fun a b r h1 h2 => ?_) (fun a r h => ?_) (fun a h => ?_), r.ll, r.sl, r.vs, r.vl⟩
            · have e := h1.trans h2.symm
              rcases a with (a | (_ | a)) | a | a <;> rcases b with (b | (_ | b)) | b | b <;> first | rfl | (simp at e; done) | (simp at e; subst e; rfl)
            · rcases a with (a | (_ | a)) | a | a <;> (cases h; exact ⟨rfl, rfl⟩)
            · rcases a with (a | (_ | a)) | a | a <;> cases h
          have r8 := back F H m r7 (fun j hj => (noLen_of hav j hj).1) fun j hj => (noLen_of hav j hj).2
          refine ⟨r8.wf.map (fun a => match a with | .fr none => some (.fr none) | .fr (some x) => some (.fr (some (.inr x))) | .l k => some (.l k) | .s k => some (.s k)) (fun a b r h1 h2 => ?_) (fun a r h => ?_) (fun a h => ?_), r8.ll, r8.sl, r8.vs, r8.vl⟩
          · have e := h1.trans h2.symm
            rcases a with (_ | a) | a | a <;> rcases b with (_ | b) | b | b <;> first | rfl | (simp at e; done) | (simp at e; subst e; rfl)
          · rcases a with (_ | a) | a | a <;> (cases h; exact ⟨rfl, rfl⟩)
          · rcases a with (_ | a) | a | a <;> cases h
end
end Rf
namespace Rf
open PySem L2
open PyProof.Rows (envOfC)
def zipIt : List D → Option Itr
  | [.obj o .lst xs, .obj o' .lst ys] => some ⟨[frz (.obj o .lst xs), frz (.obj o' .lst ys)], pairs (kids (frz (.obj o .lst xs))) (kids (frz (.obj o' .lst ys)))⟩
  | _ => none
theorem zipIt_some {ds : List D} {w : Itr} (h : zipIt ds = some w) : ∃ o xs o' ys, ds = [.obj o .lst xs, .obj o' .lst ys] ∧ w = ⟨[frz (.obj o .lst xs), frz (.obj o' .lst ys)], pairs (kids (frz (.obj o .lst xs))) (kids (frz (.obj o' .lst ys)))⟩ := by
  unfold zipIt at h
  split at h
  · cases h; exact ⟨_, _, _, _, rfl, rfl⟩
  · cases h
/-- what a block comes to, its items given -/
def lcR (g : TF) (t : M → R Bool) (f : M → R D) (js : List Nat) (items : List D) (m : M) : R D := match clr js m with
  | none => .no
  | some (m2, old) => match quiet (loopC g t f js items [] m2) with
    | .ok ds m3 => if allVal js m3 = true then .ok (.obj .own .lst ds) (rst js old m3) else .no
    | _ => .no
def dZipC (j : Nat) (ga : M → R (List D)) (g : TF) (t : M → R Bool) (f : M → R D) (js : List Nat) : M → R D := fun m => (ga m).bind fun ds m1 => match zipIt ds with
  | some w => if j < m1.sl.length then lcR g t f js w.items (setS m1 j .abs) else .no
  | none => .no
theorem dCall1 {fn : List D → RC} {E : M → R D} {m : M} : dCall fn [.v E] m = (E m).bind fun d m => match fn [d] with
    | .ok r _ => .ok r m
    | .ex c n _ => .ex c n m
    | .no => .no := by
  unfold dCall dArgs dArgs takeL takeL
  cases E m with
  | ok d m1 =>
    simp only [R.bind, Option.map]
    cases fn [d] with
    | ok r ds => cases ds <;> rfl
    | ex c n ds => cases ds <;> rfl
    | no => rfl
  | ex c n m1 => rfl
  | no => rfl
theorem dSeq_ret {E : M → R D} {m : M} : dSeq (dRet E) dNx m = dRet E m := by
  unfold dSeq dRet
  cases E m <;> rfl
section
variable {X : Cx} {cl : Nat → Addr} {xc : XC} {W : WX} {a b elt : Expr} {elts ifs : List Expr} {kk : Nat} {ga : M → R (List D)} {g : TF} {t : M → R Bool} {f : M → R D} {p pz ps py p3 p4 pc pr ps2 tp : Pos} {x y : Str} {scope : Scope}
theorem st_zipC {jj k : Nat} {fn : List D → RC} (tk : Takes X W) (hm : X.mg "zip" = none) (G : Fo X.prog X.w X.K X.mg X.base cl xc jj x 1 fn) (hr : Room k X.A) (hc : X.calm = true) (nd : X.N.Nodup) (j : Nat) (own : List (Str × Nat)) (ha : PAd X cl xc W [a, b] ga)
    (hb : ∀ (s : Shared) (H : Hp) (C : Addr) (cs : List (Str × Addr)) (fp : List Addr), PG (X.blk s H scope (compEnvC scope cs C X.env) fp) (.Tuple elts kk tp) (tG X.K cl (own.map (·.2)) g) ∧ PTs (X.blk s H scope (compEnvC scope cs C X.env) fp) ifs (tT X.K cl xc W0 t) ∧ PEd (X.blk s H scope (compEnvC scope cs C X.env) fp) cl xc W0 elt f)
    (hjk : jj ≤ k := by decide) (hg : X.env.kindOf "zip" = some .globalImplicit := by kernel_rfl) (hs : starEach [a, b] X.env = (false, eval a X.env) :: starEach [b] X.env := by kernel_rfl) (hpl : (backTo pz (starEach [b] X.env)).any (·.1) = false := by kernel_rfl)
    (hi : X.N[j]? = some y := by kernel_rfl) (hx : locB X.env.scope y = true := by kernel_rfl) (hv : visB X.env.scope y = true := by kernel_rfl) (hsw : swapsWith (.Call (.Name "zip" p) [a, b] [] pz) (some (.Name y py)) ps.line X.env = pure false := by kernel_rfl) (hf : X.fn y = true ∨ X.env.scope.names.lookup y = some .local := by first | exact .inl rfl | exact .inr (by kernel_rfl))
    (hy1 : (y == ("__debug__" : Str)) = false := by kernel_rfl) (hy2 : (y == ("__classdict__" : Str)) = false := by kernel_rfl) (hgx : X.env.kindOf x = some .globalImplicit := by kernel_rfl) (hdb : (x == ("__debug__" : Str)) = false := by kernel_rfl)
    (hst : starEach [.ListComp elt [⟨.Tuple elts kk tp, .Name y p4, ifs, 0⟩] scope pc] X.env = (false, eval (.ListComp elt [⟨.Tuple elts kk tp, .Name y p4, ifs, 0⟩] scope pc) X.env) :: starEach [] X.env := by kernel_rfl) (hpl2 : (backTo pr (starEach [] X.env)).any (·.1) = false := by kernel_rfl)
    (ok : blkC X.N X.env.scope scope own = true := by kernel_rfl) (hs2 : ∀ x, foldedSetIterable (.Name y p4) X.env x = pure x := by exact fun _ => by kernel_rfl) :
    PSsd X cl xc W [.Assign [.Name y py] (.Call (.Name "zip" p) [a, b] [] pz) ps, .Return (some (.Call (.Name x p3) [.ListComp elt [⟨.Tuple elts kk tp, .Name y p4, ifs, 0⟩] scope pc] [] pr)) ps2] (dSeq (dRet (dCall fn [.v (dZipC j ga g t f (own.map (·.2)))])) dNx) := by
  obtain ⟨fa, fdt, pps, hpn, hmx, G, hkx, hbx⟩ := G
  have lc := pe_lc (X := X) (g := tG X.K cl (own.map (·.2)) g) (tt := tT X.K cl xc W0 t) (te := tE X.K cl xc W0 f) (pos := pc) hc nd (pi_zipN (elts := elts) (kk := kk) (tp := tp) (pos := p4) hi (vis_of hv).1 (vis_of hv).2.1 (vis_of hv).2.2) (blkOk_by ok) (fun s H C cs fp => (hb s H C cs fp).1) (fun s H C cs fp => (hb s H C cs fp).2.1) (fun s H C cs fp => (hb s H C cs fp).2.2) hs2
  refine pss_imp (pss_cons (ps_set nd hi (loc_of hx) (pe_zipV hg hm ha hs hpl) hsw hf) (pss_cons (ps_ret (pe_callS (E := fun σ c d H' => W c d σ H') G (hr.mono hjk) hgx hmx hkx hbx (fun σ => passAt tk σ) (pa_cons lc pa_nil hst) hdb hst hpl2)) pss_nil)) fun Dn σ H hq => ?_
  obtain ⟨φ, fd, fv, F, m, lv, r, q⟩ := tS_post.mp hq
  show tA X.K cl xc W ga σ H _
  refine ⟨φ, fd, fv, F, m, lv, r, ?_⟩
  rw [dSeq_ret] at q
  unfold dRet at q
  rw [dCall1] at q
  unfold dZipC at q
  cases e : ga m with
  | no => rw [e] at q; exact q.elim
  | ex c n m1 => rw [e] at q; exact fun F' H' dx r' hx => q F' H' σ dx r' hx
  | ok ds m1 =>
    rw [e] at q
    simp only [R.bind] at q
    intro F1 H1 vs hl r1
    cases ez : zipIt ds with
    | none => rw [ez] at q; exact q.elim
    | some w =>
      rw [ez] at q
      obtain ⟨o, xs, o', ys, rfl, rfl⟩ := zipIt_some ez
      match vs, hl with
      | [v, u], _ =>
        obtain ⟨F', w', ra, rb⟩ := r1.wf.toTops.frz2
        obtain ⟨a, us, rfl, kr, rs⟩ := kids_sh ra w'.ex
        obtain ⟨b, us', rfl, kr', rs'⟩ := kids_sh rb w'.ex
        refine ⟨a, b, us, us', rfl, kr, kr', fun z TI TO i1 i2 Hz ZA => ?_⟩
        by_cases hj : j < m1.sl.length
        case neg => simp only [if_neg hj] at q; exact q.elim
        simp only [if_pos hj] at q
        have r2 : Rel X.K cl (pshs .abs [frz (.obj o .lst xs), frz (.obj o' .lst ys)] fd) (pshs .non [.ref a, .ref b] fv) F' H1 σ m1 lv := r1.untops.tops w'
        have r3 : Rel X.K cl (pshs .abs [frz (.obj o .lst xs), frz (.obj o' .lst ys)] fd) (pshs .non [.ref a, .ref b] fv) F' H1 (σ.set j (some (.ref z))) (setS m1 j .abs) lv := (r2.push (r2.wf.dup0 (d := .abs) (v := .ref z) rfl)).store hj
        have hjs : j < σ.length := by rw [r2.sl]; exact hj
        show ∃ z TI TO i1 i2 a b H0, _
        refine ⟨z, TI, TO, i1, i2, a, b, H1, by rw [List.getElem?_set_self hjs], ZA, ?_⟩
        suffices h : tLc (fun _ _ R => R (Itz X.K a b) H1) (tG X.K cl (own.map (·.2)) g) (tT X.K cl xc W0 t) (tE X.K cl xc W0 f) (own.map (·.2)) (σ.set j (some (.ref z))) H1 (fun v H' => spF X.K cl xc 1 fn [v] H' Dn.rt (fun c d H' => W c d (σ.set j (some (.ref z))) H')) from h
        refine lc_body (X := X) (xc := xc) (hold := [frz (.obj o .lst xs), frz (.obj o' .lst ys)]) (hv := [.ref a, .ref b]) rfl r3 its_zip ?_
        unfold lcQ
        unfold lcR at q
        cases ec : clr (own.map (·.2)) (setS m1 j .abs) with
        | none => simp only [ec] at q; exact q.elim
        | some zz =>
          obtain ⟨m2, old⟩ := zz
          simp only [ec] at q ⊢
          cases el : quiet (loopC g t f (own.map (·.2)) (pairs (kids (frz (.obj o .lst xs))) (kids (frz (.obj o' .lst ys)))) [] m2) with
          | no => simp only [el] at q; exact q.elim
          | ex c n m3 => simp only [el] at q; exact q.elim
          | ok ds m3 =>
            simp only [el] at q ⊢
            by_cases hav : allVal (own.map (·.2)) m3 = true
            case neg => simp only [if_neg hav] at q; exact q.elim
            simp only [if_pos hav] at q ⊢
            intro F5 H5 vv r5
            have r6 : Rel X.K cl (pshs .abs [.obj .own .lst ds] fd) (pshs .non [vv] fv) F5 H5 (σ.set j (some (.ref z))) (rst (own.map (·.2)) old m3) lv := Rel.consTops (r5.tops r5.wf.noTops)
            refine call_post (as := [.v (dC .non)]) rfl rfl r6 (fun i k h => ?_) ?_
            · cases i with
              | zero => cases h
              | succ i => simp at h
            · cases ef : fn [.obj .own .lst ds] with
              | no => simp only [ef] at q; exact q.elim
              | ok d ds' =>
                simp only [ef] at q
                have pl0 : putL [.v (dC .non)] ds' (rst (own.map (·.2)) old m3) = rst (own.map (·.2)) old m3 := by cases ds' <;> rfl
                simp only [takeL, Option.map, ef, pl0]
                exact fun F6 H6 v6 r6 => q F6 H6 _ v6 r6
              | ex c n ds' =>
                simp only [ef] at q
                have pl0 : putL [.v (dC .non)] ds' (rst (own.map (·.2)) old m3) = rst (own.map (·.2)) old m3 := by cases ds' <;> rfl
                simp only [takeL, Option.map, ef, pl0]
                exact fun F6 H6 dx r6 hx => q F6 H6 _ dx r6 hx
end
@[simp] theorem dZipC_ap (j : Nat) (ga : M → R (List D)) (g : TF) (t : M → R Bool) (f : M → R D) (js : List Nat) (m : M) : dZipC j ga g t f js m = ((ga m).bind fun ds m1 => match zipIt ds with
  | some w => if j < m1.sl.length then lcR g t f js w.items (setS m1 j .abs) else .no
  | none => .no) := rfl
end Rf
namespace Rf
open PySem L2
open PyProof.Rows (envOfC)
def top (i : Nat) : Stmt := PySem.Challenge.pw_dapple_k01_sums_and_products.main.body.getD i (.Pass ⟨0, 0, 0, 0⟩)
def k_POWERS : D := .obj .con .tup [.int 1, .int 2, .int 4, .int 8, .int 16, .int 5, .int 10, .int 20, .int 13, .int 26, .int 17, .int 7, .int 14, .int 28, .int 29, .int 31, .int 27, .int 19, .int 3, .int 6, .int 12, .int 24, .int 21, .int 15, .int 30, .int 25, .int 23, .int 11, .int 22, .int 9, .int 18]
def k_EXPONENTS : D := .obj .con .tup [.int 0, .int 0, .int 1, .int 18, .int 2, .int 5, .int 19, .int 11, .int 3, .int 29, .int 6, .int 27, .int 20, .int 8, .int 12, .int 23, .int 4, .int 10, .int 30, .int 17, .int 7, .int 22, .int 28, .int 26, .int 21, .int 25, .int 9, .int 16, .int 13, .int 14, .int 24, .int 15]
abbrev t_digits_of : Stmt := top 4
/- digits_of(number, count): 0 number, 1 count, 2 found, 3 _ -/
def l_digits_of_1 : M → R Fl := (dSeq (dApp 2 (dS (sBin oMod (sLd 0 []) (sC (.int 2)))))
  (dSeq (dAsg (gNm 0) (dS (sBin oDiv (sLd 0 []) (sC (.int 2)))))
  dNx))
def c_digits_of_1 : M → R Fl := (dAsg (gNm 2) (dSq .lst dA0))
def c_digits_of_2 : M → R Fl := (dFor (iR r1It (dA (dS (sLd 1 [])) dA0)) (gNm 3) l_digits_of_1)
def c_digits_of_3 : M → R Fl := (dRet (dMv 2))
def b_digits_of : M → R Fl := (dSeq c_digits_of_1 (dSeq c_digits_of_2 (dSeq c_digits_of_3 dNx)))
def f_digits_of : List D → RC := runB 2 4 b_digits_of
abbrev t_number_of : Stmt := top 5
/- number_of(digits): 0 digits, 1 number, 2 digit -/
def l_number_of_1 : M → R Fl := (dSeq (dAsg (gNm 1) (dS (sBin oAdd (sBin oMul (sC (.int 2)) (sLd 1 [])) (sLd 2 []))))
  dNx)
def c_number_of_1 : M → R Fl := (dAsg (gNm 1) (dS (sC (.int 0))))
def c_number_of_2 : M → R Fl := (dFor (iV (dRvW (pLd 0 []))) (gNm 2) l_number_of_1)
def c_number_of_3 : M → R Fl := (dRet (dS (sLd 1 [])))
def b_number_of : M → R Fl := (dSeq c_number_of_1 (dSeq c_number_of_2 (dSeq c_number_of_3 dNx)))
def f_number_of : List D → RC := runB 1 3 b_number_of
abbrev t_plus : Stmt := top 6
/- plus(first, second): 0 first, 1 second, 2 pairs, 3 one, 4 other -/
def e_plus_1 : M → R D := (dS (sBin oMod (sBin oAdd (sLd 3 []) (sLd 4 [])) (sC (.int 2))))
def b_plus : M → R Fl := (dSeq (dRet (dCall f_number_of [.v (dZipC 2 (dA (dCall f_digits_of [.v (dS (sLd 0 [])), .v (dS (sC (.int 5)))]) (dA (dCall f_digits_of [.v (dS (sLd 1 [])), .v (dS (sC (.int 5)))]) dA0)) (gTp (gsCons (gNm 3) (gsCons (gNm 4) gsNil))) tYesD e_plus_1 [3, 4])])) dNx)
def f_plus : List D → RC := runB 2 5 b_plus
abbrev t_times : Stmt := top 7
/- times(first, second): 0 first, 1 second -/
def c_times_1 : M → R Fl := (dIfS (dOr (dTs (sT (sBin oEq (sLd 0 []) (sC (.int 0))))) (dTs (sT (sBin oEq (sLd 1 []) (sC (.int 0)))))) (dSeq (dRet (dS (sC (.int 0))))
  dNx) dNx)
def c_times_2 : M → R Fl := (dRet (dS (sBin oIxP (pC k_POWERS) (sBin oMod (sBin oAdd (sBin oIxP (pC k_EXPONENTS) (sLd 0 [])) (sBin oIxP (pC k_EXPONENTS) (sLd 1 []))) (sBin oSub (sC (.int 32)) (sC (.int 1)))))))
def b_times : M → R Fl := (dSeq c_times_1 (dSeq c_times_2 dNx))
def f_times : List D → RC := runB 2 2 b_times
abbrev t__law_pool : Stmt := top 9
/- _law_pool(script): 0 script, 1 salt, 2 cell -/
def l__law_pool_1 : M → R Fl := (dSeq (dAsg (gNm 1) (dS (sBin oMod (pOp bInt [(sS (sBin oAdd (sBin oMul (sLd 1 []) (sC (.int 31))) (sLd 2 [])))]) (sC (.int 1000003)))))
  dNx)
def b__law_pool : M → R Fl := (dSeq (dAsg (gNm 1) (dS (sC (.int 7))))
  (dSeq (dFor (iV (dSl (pLd 0 []) none (some (sC (.int 63))))) (gNm 2) l__law_pool_1)
  (dSeq (dRet (dSq .lst (dA (dP wList [(pLd 0 [])]) (dA (dS (sC (.int 0))) (dA (dS (sC (.int 0))) (dA (dS (sC (.int 0))) (dA (dS (sLd 1 [])) dA0)))))))
  dNx)))
def f__law_pool : List D → RC := runB 1 3 b__law_pool
abbrev t__law_spread : Stmt := top 10
/- _law_spread(cell): 0 cell, 1 mixed, 2 total, 3 k -/
def l__law_spread_1 : M → R Fl := (dSeq (dAsg (gNm 1) (dS (sBin oMod (pOp bInt [(sS (sBin oAdd (sBin oAdd (sBin oMul (sLd 1 []) (sC (.int 48271))) (sC (.int 12345))) (sLd 3 [])))]) (sC (.int 2147483647)))))
  (dSeq (dAsg (gNm 2) (dS (sBin oAdd (sBin oMul (sLd 2 []) (sC (.int 2147483647))) (sLd 1 []))))
  dNx))
def b__law_spread : M → R Fl := (dSeq (dAsg (gNm 1) (dS (sBin oMod (pOp bInt [(pLd 0 [])]) (sC (.int 2147483647)))))
  (dSeq (dAsg (gNm 2) (dS (sC (.int 1))))
  (dSeq (dFor (iR r1It (dA (dS (sC (.int 4))) dA0)) (gNm 3) l__law_spread_1)
  (dSeq (dRet (dS (sLd 2 [])))
  dNx))))
def f__law_spread : List D → RC := runB 1 4 b__law_spread
abbrev t__law_draw : Stmt := top 11
/- _law_draw(pool, many): 0 pool, 1 many, 2 value, 3 cell, 4 mixed -/
def b__law_draw : M → R Fl := (dSeq (dIfS (dAnd (dTs (sT (sBin oLe (sLd 0 ([] ++ [.ix (sC (.int 2))])) (sC (.int 0))))) (dTs (sT (sBin oLt (sLd 0 ([] ++ [.ix (sC (.int 1))])) (pOp bLen [(pLd 0 ([] ++ [.ix (sC (.int 0))]))]))))) (dSeq (dAsg (gNm 3) (dS (sLd 0 (([] ++ [.ix (sC (.int 0))]) ++ [.ix (sLd 0 ([] ++ [.ix (sC (.int 1))]))]))))
  (dSeq (dSetIx 0 [] (sC (.int 1)) (dS (sBin oAdd (sLd 0 ([] ++ [.ix (sC (.int 1))])) (sC (.int 1)))))
  (dSeq (dSetIx 0 [] (sC (.int 2)) (dS (sLd 3 [])))
  (dSeq (dIfS (dTs (sT (sBin oLt (sLd 3 []) (sC (.int 1000000000000000000))))) (dSeq (dSetIx 0 [] (sC (.int 2)) (dCall f__law_spread [.v (dS (sLd 3 []))]))
  dNx) dNx)
  dNx)))) dNx)
  (dSeq (dSetIx 0 [] (sC (.int 3)) (dS (sBin oAdd (sLd 0 ([] ++ [.ix (sC (.int 3))])) (sC (.int 1)))))
  (dSeq (dIfS (dTs (sT (sBin oLe (sLd 0 ([] ++ [.ix (sC (.int 2))])) (sC (.int 0))))) (dSeq (dAsg (gNm 4) (dS (sBin oMod (pOp bInt [(sS (sBin oAdd (sBin oAdd (sBin oMul (sLd 0 ([] ++ [.ix (sC (.int 4))])) (sC (.int 48271))) (sBin oMul (sLd 0 ([] ++ [.ix (sC (.int 3))])) (sC (.int 69621)))) (sC (.int 1))))]) (sC (.int 2147483647)))))
  (dSeq (dAsg (gNm 4) (dS (sBin oMod (pOp bInt [(sS (sBin oAdd (sBin oMul (sLd 4 []) (sC (.int 16807))) (sLd 0 ([] ++ [.ix (sC (.int 3))]))))]) (sC (.int 2147483629)))))
  (dSeq (dRet (dS (sBin oMod (sBin oDiv (sLd 4 []) (sC (.int 5))) (sLd 1 []))))
  dNx))) dNx)
  (dSeq (dAsg (gNm 2) (dS (sBin oMod (pOp bInt [(pLd 0 ([] ++ [.ix (sC (.int 2))]))]) (sLd 1 []))))
  (dSeq (dSetIx 0 [] (sC (.int 2)) (dS (sBin oDiv (sLd 0 ([] ++ [.ix (sC (.int 2))])) (sLd 1 []))))
  (dSeq (dRet (dS (sLd 2 [])))
  dNx))))))
def f__law_draw : List D → RC := runB 2 5 b__law_draw
abbrev t__law_same : Stmt := top 12
/- _law_same(actual, due): 0 actual, 1 due, 2 k -/
def l__law_same_1 (self : List D → RC) : M → R Fl := (dSeq (dIfS (dNot (dT (dCall self [.v (dFz (dLd 0 ([] ++ [.ix (sLd 2 [])]))), .v (dFz (dLd 1 ([] ++ [.ix (sLd 2 [])])))]))) (dSeq (dRet (dS (sC (.bl false))))
  dNx) dNx)
  dNx)
def b__law_same (self : List D → RC) : M → R Fl := (dSeq (dIfS (dOr (dTs (sT (sUn (bIsi "tuple") (pLd 1 [])))) (dTs (sT (sUn (bIsi "list") (pLd 1 []))))) (dSeq (dIfS (dOr (dTs (sT (sBin oNe (sUn (bIsi "tuple") (pLd 1 [])) (sUn (bIsi "tuple") (pLd 0 []))))) (dTs (sT (sBin oNe (sUn (bIsi "list") (pLd 1 [])) (sUn (bIsi "list") (pLd 0 [])))))) (dSeq (dRet (dS (sC (.bl false))))
  dNx) dNx)
  (dSeq (dIfS (dTs (sT (sBin oNe (pOp bLen [(pLd 0 [])]) (pOp bLen [(pLd 1 [])])))) (dSeq (dRet (dS (sC (.bl false))))
  dNx) dNx)
  (dSeq (dFor (iR r1It (dA (dS (pOp bLen [(pLd 1 [])])) dA0)) (gNm 2) (l__law_same_1 self))
  (dSeq (dRet (dS (sC (.bl true))))
  dNx)))) dNx)
  (dSeq (dIfS (dTs (sT (sUn (oIsP false) (pLd 1 [])))) (dSeq (dRet (dS (sUn (oIsP false) (pLd 0 []))))
  dNx) dNx)
  (dSeq (dIfS (dTs (sT (sUn (bIsi "bool") (pLd 1 [])))) (dSeq (dRet (dAndV (dS (sUn (bIsi "bool") (pLd 0 []))) (dS (sBin oEqD (pLd 0 []) (pLd 1 [])))))
  dNx) dNx)
  (dSeq (dIfS (dTs (sT (sUn (bIsi "int") (pLd 1 [])))) (dSeq (dRet (dAndV (dS (sUn (bIsi "int") (pLd 0 []))) (dAndV (dNotV (dS (sUn (bIsi "bool") (pLd 0 [])))) (dS (sBin oEqD (pLd 0 []) (pLd 1 []))))))
  dNx) dNx)
  (dSeq (dRet (dAndV (dS (sUn (bIsi "str") (pLd 0 []))) (dS (sBin oEqD (pLd 0 []) (pLd 1 [])))))
  dNx)))))
def f__law_same : Nat → List D → RC
  | 0 => fun _ => .no
  | n + 1 => runB 2 3 (b__law_same (f__law_same n))
abbrev t__law_xor : Stmt := top 13
/- _law_xor(a, b): 0 a, 1 b -/
def b__law_xor : M → R Fl := (dSeq (dRet (dS (sBin oSub (sBin oOr (sLd 0 []) (sLd 1 [])) (sBin oAnd (sLd 0 []) (sLd 1 [])))))
  dNx)
def f__law_xor : List D → RC := runB 2 2 b__law_xor
abbrev t__law_mul : Stmt := top 14
/- _law_mul(a, b): 0 a, 1 b, 2 total, 3 k -/
def l__law_mul_1 : M → R Fl := (dSeq (dIfS (dTs (sT (sBin oEq (sBin oAnd (sBin oShr (sLd 1 []) (sLd 3 [])) (sC (.int 1))) (sC (.int 1))))) (dSeq (dAsg (gNm 2) (dCall f__law_xor [.v (dS (sLd 2 [])), .v (dS (sBin oShl (sLd 0 []) (sLd 3 [])))]))
  dNx) dNx)
  dNx)
def l__law_mul_2 : M → R Fl := (dSeq (dIfS (dTs (sT (sBin oEq (sBin oAnd (sBin oShr (sLd 2 []) (sLd 3 [])) (sC (.int 1))) (sC (.int 1))))) (dSeq (dAsg (gNm 2) (dCall f__law_xor [.v (dS (sLd 2 [])), .v (dS (sBin oShl (sC (.int 37)) (sBin oSub (sLd 3 []) (sC (.int 5)))))]))
  dNx) dNx)
  dNx)
def c__law_mul_1 : M → R Fl := (dAsg (gNm 2) (dS (sC (.int 0))))
def c__law_mul_2 : M → R Fl := (dFor (iR r1It (dA (dS (sC (.int 5))) dA0)) (gNm 3) l__law_mul_1)
def c__law_mul_3 : M → R Fl := (dFor (iR r3It (dA (dS (sC (.int 8))) (dA (dS (sC (.int 4))) (dA (dS (sUn oNeg (sC (.int 1)))) dA0)))) (gNm 3) l__law_mul_2)
def c__law_mul_4 : M → R Fl := (dRet (dS (sLd 2 [])))
def b__law_mul : M → R Fl := (dSeq c__law_mul_1 (dSeq c__law_mul_2 (dSeq c__law_mul_3 (dSeq c__law_mul_4 dNx))))
def f__law_mul : List D → RC := runB 2 4 b__law_mul
abbrev t_law : Stmt := top 15
/- law(script): 0 script, 1 pool, 2 turn, 3 a, 4 b -/
def l_law_1 : M → R Fl := (dSeq (dAsg (gNm 3) (dCall f__law_draw [.l 1, .v (dS (sC (.int 32)))]))
  (dSeq (dAsg (gNm 4) (dBin oIx (dSq .lst (dA (dCall f__law_draw [.l 1, .v (dS (sC (.int 32)))]) (dA (dS (sLd 3 [])) (dA (dS (sC (.int 0))) (dA (dS (sC (.int 1))) dA0))))) (dB bMin2 (dA (dS (sC (.int 3))) (dA (dBin oDiv (dCall f__law_draw [.l 1, .v (dS (sC (.int 9)))]) (dS (sC (.int 2)))) dA0)))))
  (dSeq (dIfS (dOr (dNot (dT (dCall (f__law_same 12) [.v (dFz (dCall f_plus [.v (dS (sLd 3 [])), .v (dS (sLd 4 []))])), .v (dFz (dCall f__law_xor [.v (dS (sLd 3 [])), .v (dS (sLd 4 []))]))]))) (dNot (dT (dCall (f__law_same 12) [.v (dFz (dCall f_times [.v (dS (sLd 3 [])), .v (dS (sLd 4 []))])), .v (dFz (dCall f__law_mul [.v (dS (sLd 3 [])), .v (dS (sLd 4 []))]))])))) (dSeq (dRet (dS (sC (.bl false))))
  dNx) dNx)
  dNx)))
def c_law_1 : M → R Fl := (dAsg (gNm 1) (dCall f__law_pool [.v (dVar 0)]))
def c_law_2 : M → R Fl := (dFor (iR r1It (dA (dS (sC (.int 40))) dA0)) (gNm 2) l_law_1)
def c_law_3 : M → R Fl := (dRet (dS (sC (.bl true))))
def b_law : M → R Fl := (dSeq c_law_1 (dSeq c_law_2 (dSeq c_law_3 dNx)))
def f_law : List D → RC := runB 1 5 b_law
structure S_digits_of where
  v_found : D := .abs
  v__ : D := .abs
def S_digits_of.m (s : S_digits_of) (a0 a1 : D) : M := ⟨[.len 0, .len 1, .val s.v_found, .val s.v__], [a0, a1]⟩
structure S_number_of where
  v_number : D := .abs
  v_digit : D := .abs
def S_number_of.m (s : S_number_of) (a0 : D) : M := ⟨[.len 0, .val s.v_number, .val s.v_digit], [a0]⟩
structure S_plus where
  v_pairs : D := .abs
  v_one : D := .abs
  v_other : D := .abs
def S_plus.m (s : S_plus) (a0 a1 : D) : M := ⟨[.len 0, .len 1, .val s.v_pairs, .val s.v_one, .val s.v_other], [a0, a1]⟩
structure S__law_pool where
  v_salt : D := .abs
  v_cell : D := .abs
def S__law_pool.m (s : S__law_pool) (a0 : D) : M := ⟨[.len 0, .val s.v_salt, .val s.v_cell], [a0]⟩
structure S__law_spread where
  v_mixed : D := .abs
  v_total : D := .abs
  v_k : D := .abs
def S__law_spread.m (s : S__law_spread) (a0 : D) : M := ⟨[.len 0, .val s.v_mixed, .val s.v_total, .val s.v_k], [a0]⟩
structure S__law_draw where
  v_value : D := .abs
  v_cell : D := .abs
  v_mixed : D := .abs
def S__law_draw.m (s : S__law_draw) (a0 a1 : D) : M := ⟨[.len 0, .len 1, .val s.v_value, .val s.v_cell, .val s.v_mixed], [a0, a1]⟩
structure S__law_same where
  v_k : D := .abs
def S__law_same.m (s : S__law_same) (a0 a1 : D) : M := ⟨[.len 0, .len 1, .val s.v_k], [a0, a1]⟩
structure S__law_mul where
  v_total : D := .abs
  v_k : D := .abs
def S__law_mul.m (s : S__law_mul) (a0 a1 : D) : M := ⟨[.len 0, .len 1, .val s.v_total, .val s.v_k], [a0, a1]⟩
structure S_law where
  v_pool : D := .abs
  v_turn : D := .abs
  v_a : D := .abs
  v_b : D := .abs
def S_law.m (s : S_law) (a0 : D) : M := ⟨[.len 0, .val s.v_pool, .val s.v_turn, .val s.v_a, .val s.v_b], [a0]⟩
section
variable {P : Program} {w : World} {K : PySem.W.Frag} {mg : Str → Option Value} {base : Heap} {cl : Nat → Addr} {xc : XC}
theorem ok_digits_of {f : Addr} {fd : FuncData} (F : FunD K "digits_of" "digits_of" (defArgs t_digits_of) (defBody t_digits_of) (defScope t_digits_of) [] [] f fd) (hm : mg "digits_of" = some (.ref f)) (g_range : mg "range" = none) : Fo P w K mg base cl xc 1 "digits_of" 2 f_digits_of := by
  have S : FnScope ["number", "count", "found", "_"] ["number", "count"] (defScope t_digits_of) := ⟨by kernel_rfl, by kernel_rfl, by kernel_rfl, by decide +kernel, by kernel_rfl, by decide +kernel, by decide +kernel⟩
  have nd := S.nd
  refine fo_def F hm S (fun _ _ _ _ _ _ us hl => match us, hl with | [_, _], _ => rfl) (fun cdv A outer s H E hr => ?_)
  have tk := takes_of (X := cxOf (L2.CX P w) P w K mg base ["number", "count", "found", "_"] "digits_of" (defScope t_digits_of) f cdv A outer s H E) (E := E) rfl rfl rfl rfl
  have po := passes_of (X := cxOf (L2.CX P w) P w K mg base ["number", "count", "found", "_"] "digits_of" (defScope t_digits_of) f cdv A outer s H E) rfl
  exact st_cons (st_v nd 2 (d_lst (d_a0)))
    (st_cons (st_f po rfl [3] (i_1 g_range (a_c (d_sc (s_v 1)) (d_a0))) (g_v nd 3) (st_cons (st_ap 2 (d_sc (s_mod (s_v 0) (s_int))))
    (st_cons (st_v nd 0 (d_sc (s_div (s_v 0) (s_int))))
    (st_nil))))
    (st_cons (st_ret (d_m 2))
    (st_nil)))
theorem ok_number_of {f : Addr} {fd : FuncData} (F : FunD K "number_of" "number_of" (defArgs t_number_of) (defBody t_number_of) (defScope t_number_of) [] [] f fd) (hm : mg "number_of" = some (.ref f)) : Fo P w K mg base cl xc 1 "number_of" 1 f_number_of := by
  have S : FnScope ["digits", "number", "digit"] ["digits"] (defScope t_number_of) := ⟨by kernel_rfl, by kernel_rfl, by kernel_rfl, by decide +kernel, by kernel_rfl, by decide +kernel, by decide +kernel⟩
  have nd := S.nd
  refine fo_def F hm S (fun _ _ _ _ _ _ us hl => match us, hl with | [_], _ => rfl) (fun cdv A outer s H E hr => ?_)
  have tk := takes_of (X := cxOf (L2.CX P w) P w K mg base ["digits", "number", "digit"] "number_of" (defScope t_number_of) f cdv A outer s H E) (E := E) rfl rfl rfl rfl
  have po := passes_of (X := cxOf (L2.CX P w) P w K mg base ["digits", "number", "digit"] "number_of" (defScope t_number_of) f cdv A outer s H E) rfl
  exact st_cons (st_v nd 1 (d_sc (s_int)))
    (st_cons (st_f po rfl [2] (i_any (d_rvW (p_l (l_v 0)))) (g_v nd 2) (st_cons (st_v nd 1 (d_sc (s_add (s_mul (s_int) (s_v 1)) (s_v 2))))
    (st_nil)))
    (st_cons (st_ret (d_sc (s_v 1)))
    (st_nil)))
theorem ok_plus {f : Addr} {fd : FuncData} (F : FunD K "plus" "plus" (defArgs t_plus) (defBody t_plus) (defScope t_plus) [] [] f fd) (hm : mg "plus" = some (.ref f)) (g_zip : mg "zip" = none) (G_digits_of : Fo P w K mg base cl xc 1 "digits_of" 2 f_digits_of) (G_number_of : Fo P w K mg base cl xc 1 "number_of" 1 f_number_of) : Fo P w K mg base cl xc 2 "plus" 2 f_plus := by
  have S : FnScope ["first", "second", "pairs", "one", "other"] ["first", "second"] (defScope t_plus) := ⟨by kernel_rfl, by kernel_rfl, by kernel_rfl, by decide +kernel, by kernel_rfl, by decide +kernel, by decide +kernel⟩
  have nd := S.nd
  refine fo_def F hm S (fun _ _ _ _ _ _ us hl => match us, hl with | [_, _], _ => rfl) (fun cdv A outer s H E hr => ?_)
  have tk := takes_of (X := cxOf (L2.CX P w) P w K mg base ["first", "second", "pairs", "one", "other"] "plus" (defScope t_plus) f cdv A outer s H E) (E := E) rfl rfl rfl rfl
  have po := passes_of (X := cxOf (L2.CX P w) P w K mg base ["first", "second", "pairs", "one", "other"] "plus" (defScope t_plus) f cdv A outer s H E) rfl
  exact st_zipC tk g_zip G_number_of hr rfl nd 2 [("one", 3), ("other", 4)] (a_c (d_call1 tk G_digits_of hr (av (d_sc (s_v 0)) (av (d_sc (s_int)) (ar_nil)))) (a_c (d_call1 tk G_digits_of hr (av (d_sc (s_v 1)) (av (d_sc (s_int)) (ar_nil)))) (d_a0))) (fun _ _ _ _ _ => by have tk := @takes0; exact ⟨g_t2 rfl (g_v nd 3) (g_v nd 4), ts_nil, d_sc (s_mod (s_add (s_v 3) (s_v 4)) (s_int))⟩)
theorem ok_times {f : Addr} {fd : FuncData} (F : FunD K "times" "times" (defArgs t_times) (defBody t_times) (defScope t_times) [] [] f fd) (hm : mg "times" = some (.ref f)) (g_EXPONENTS : Con K mg "EXPONENTS" k_EXPONENTS) (g_POWERS : Con K mg "POWERS" k_POWERS) (g_SIZE : ∃ t, mg "SIZE" = some (.int 32 t)) : Fo P w K mg base cl xc 1 "times" 2 f_times := by
  have S : FnScope ["first", "second"] ["first", "second"] (defScope t_times) := ⟨by kernel_rfl, by kernel_rfl, by kernel_rfl, by decide +kernel, by kernel_rfl, by decide +kernel, by decide +kernel⟩
  have nd := S.nd
  refine fo_def F hm S (fun _ _ _ _ _ _ us hl => match us, hl with | [_, _], _ => rfl) (fun cdv A outer s H E hr => ?_)
  have tk := takes_of (X := cxOf (L2.CX P w) P w K mg base ["first", "second"] "times" (defScope t_times) f cdv A outer s H E) (E := E) rfl rfl rfl rfl
  have po := passes_of (X := cxOf (L2.CX P w) P w K mg base ["first", "second"] "times" (defScope t_times) f cdv A outer s H E) rfl
  exact st_cons (st_if (t_w (t_or (t_sc (t_c1 c_eq (s_v 0) (s_int))) (t_or1 (t_sc (t_c1 c_eq (s_v 1) (s_int)))))) (st_cons (st_ret (d_sc (s_int)))
    (st_nil)) (st_nil))
    (st_cons (st_ret (d_sc (s_xP (p_k g_POWERS) (s_mod (s_add (s_xP (p_k g_EXPONENTS) (s_v 0)) (s_xP (p_k g_EXPONENTS) (s_v 1))) (s_sub (s_gi g_SIZE) (s_int))))))
    (st_nil))
theorem ok__law_pool {f : Addr} {fd : FuncData} (F : FunD K "_law_pool" "_law_pool" (defArgs t__law_pool) (defBody t__law_pool) (defScope t__law_pool) [] [] f fd) (hm : mg "_law_pool" = some (.ref f)) (g_int : mg "int" = none) (g_list : mg "list" = none) : Fo P w K mg base cl xc 1 "_law_pool" 1 f__law_pool := by
  have S : FnScope ["script", "salt", "cell"] ["script"] (defScope t__law_pool) := ⟨by kernel_rfl, by kernel_rfl, by kernel_rfl, by decide +kernel, by kernel_rfl, by decide +kernel, by decide +kernel⟩
  have nd := S.nd
  refine fo_def F hm S (fun _ _ _ _ _ _ us hl => match us, hl with | [_], _ => rfl) (fun cdv A outer s H E hr => ?_)
  have tk := takes_of (X := cxOf (L2.CX P w) P w K mg base ["script", "salt", "cell"] "_law_pool" (defScope t__law_pool) f cdv A outer s H E) (E := E) rfl rfl rfl rfl
  have po := passes_of (X := cxOf (L2.CX P w) P w K mg base ["script", "salt", "cell"] "_law_pool" (defScope t__law_pool) f cdv A outer s H E) rfl
  exact st_cons (st_v nd 1 (d_sc (s_int)))
    (st_cons (st_f po rfl [2] (i_any (d_slW (p_l (l_v 0)) (po_n) (po_s (s_int)))) (g_v nd 2) (st_cons (st_v nd 1 (d_sc (s_mod (s_fT cb_int bo_int g_int (pp_c (p_s (s_add (s_mul (s_v 1) (s_int)) (s_v 2))) (pp_nil))) (s_int))))
    (st_nil)))
    (st_cons (st_ret (d_lst (a_c (d_nT cn_list bo_list g_list (pp_c (p_l (l_v 0)) pp_nil)) (a_c (d_sc (s_int)) (a_c (d_sc (s_int)) (a_c (d_sc (s_int)) (a_c (d_sc (s_v 1)) (d_a0))))))))
    (st_nil)))
theorem ok__law_spread {f : Addr} {fd : FuncData} (F : FunD K "_law_spread" "_law_spread" (defArgs t__law_spread) (defBody t__law_spread) (defScope t__law_spread) [] [] f fd) (hm : mg "_law_spread" = some (.ref f)) (g_int : mg "int" = none) (g_range : mg "range" = none) : Fo P w K mg base cl xc 1 "_law_spread" 1 f__law_spread := by
  have S : FnScope ["cell", "mixed", "total", "k"] ["cell"] (defScope t__law_spread) := ⟨by kernel_rfl, by kernel_rfl, by kernel_rfl, by decide +kernel, by kernel_rfl, by decide +kernel, by decide +kernel⟩
  have nd := S.nd
  refine fo_def F hm S (fun _ _ _ _ _ _ us hl => match us, hl with | [_], _ => rfl) (fun cdv A outer s H E hr => ?_)
  have tk := takes_of (X := cxOf (L2.CX P w) P w K mg base ["cell", "mixed", "total", "k"] "_law_spread" (defScope t__law_spread) f cdv A outer s H E) (E := E) rfl rfl rfl rfl
  have po := passes_of (X := cxOf (L2.CX P w) P w K mg base ["cell", "mixed", "total", "k"] "_law_spread" (defScope t__law_spread) f cdv A outer s H E) rfl
  exact st_cons (st_v nd 1 (d_sc (s_mod (s_fT cb_int bo_int g_int (pp_c (p_l (l_v 0)) (pp_nil))) (s_int))))
    (st_cons (st_v nd 2 (d_sc (s_int)))
    (st_cons (st_f po rfl [3] (i_1 g_range (a_c (d_sc (s_int)) (d_a0))) (g_v nd 3) (st_cons (st_v nd 1 (d_sc (s_mod (s_fT cb_int bo_int g_int (pp_c (p_s (s_add (s_add (s_mul (s_v 1) (s_int)) (s_int)) (s_v 3))) (pp_nil))) (s_int))))
    (st_cons (st_v nd 2 (d_sc (s_add (s_mul (s_v 2) (s_int)) (s_v 1))))
    (st_nil))))
    (st_cons (st_ret (d_sc (s_v 2)))
    (st_nil))))
theorem ok__law_draw {f : Addr} {fd : FuncData} (F : FunD K "_law_draw" "_law_draw" (defArgs t__law_draw) (defBody t__law_draw) (defScope t__law_draw) [] [] f fd) (hm : mg "_law_draw" = some (.ref f)) (g_int : mg "int" = none) (g_len : mg "len" = none) (G__law_spread : Fo P w K mg base cl xc 1 "_law_spread" 1 f__law_spread) : Fo P w K mg base cl xc 2 "_law_draw" 2 f__law_draw := by
  have S : FnScope ["pool", "many", "value", "cell", "mixed"] ["pool", "many"] (defScope t__law_draw) := ⟨by kernel_rfl, by kernel_rfl, by kernel_rfl, by decide +kernel, by kernel_rfl, by decide +kernel, by decide +kernel⟩
  have nd := S.nd
  refine fo_def F hm S (fun _ _ _ _ _ _ us hl => match us, hl with | [_, _], _ => rfl) (fun cdv A outer s H E hr => ?_)
  have tk := takes_of (X := cxOf (L2.CX P w) P w K mg base ["pool", "many", "value", "cell", "mixed"] "_law_draw" (defScope t__law_draw) f cdv A outer s H E) (E := E) rfl rfl rfl rfl
  have po := passes_of (X := cxOf (L2.CX P w) P w K mg base ["pool", "many", "value", "cell", "mixed"] "_law_draw" (defScope t__law_draw) f cdv A outer s H E) rfl
  exact st_cons (st_if (t_w (t_and (t_sc (t_c1 c_le (s_ld (l_x (l_v 0) (s_int))) (s_int))) (t_and1 (t_sc (t_c1 c_lt (s_ld (l_x (l_v 0) (s_int))) (s_f cb_len bo_len g_len (pp_c (p_l (l_x (l_v 0) (s_int))) (pp_nil)))))))) (st_cons (st_v nd 3 (d_sc (s_ld (l_x (l_x (l_v 0) (s_int)) (s_ld (l_x (l_v 0) (s_int)))))))
    (st_cons (st_x (d_sc (s_add (s_ld (l_x (l_v 0) (s_int))) (s_int))) (l_v 0) (s_int))
    (st_cons (st_x (d_sc (s_v 3)) (l_v 0) (s_int))
    (st_cons (st_if (t_sc (t_c1 c_lt (s_v 3) (s_int))) (st_cons (st_x (d_call1 tk G__law_spread hr (av (d_sc (s_v 3)) (ar_nil))) (l_v 0) (s_int))
    (st_nil)) (st_nil))
    (st_nil))))) (st_nil))
    (st_cons (st_x (d_sc (s_add (s_ld (l_x (l_v 0) (s_int))) (s_int))) (l_v 0) (s_int))
    (st_cons (st_if (t_sc (t_c1 c_le (s_ld (l_x (l_v 0) (s_int))) (s_int))) (st_cons (st_v nd 4 (d_sc (s_mod (s_fT cb_int bo_int g_int (pp_c (p_s (s_add (s_add (s_mul (s_ld (l_x (l_v 0) (s_int))) (s_int)) (s_mul (s_ld (l_x (l_v 0) (s_int))) (s_int))) (s_int))) (pp_nil))) (s_int))))
    (st_cons (st_v nd 4 (d_sc (s_mod (s_fT cb_int bo_int g_int (pp_c (p_s (s_add (s_mul (s_v 4) (s_int)) (s_ld (l_x (l_v 0) (s_int))))) (pp_nil))) (s_int))))
    (st_cons (st_ret (d_sc (s_mod (s_div (s_v 4) (s_int)) (s_v 1))))
    (st_nil)))) (st_nil))
    (st_cons (st_v nd 2 (d_sc (s_mod (s_fT cb_int bo_int g_int (pp_c (p_l (l_x (l_v 0) (s_int))) (pp_nil))) (s_v 1))))
    (st_cons (st_x (d_sc (s_div (s_ld (l_x (l_v 0) (s_int))) (s_v 1))) (l_v 0) (s_int))
    (st_cons (st_ret (d_sc (s_v 2)))
    (st_nil))))))
theorem ok__law_same {f : Addr} {fd : FuncData} (F : FunD K "_law_same" "_law_same" (defArgs t__law_same) (defBody t__law_same) (defScope t__law_same) [] [] f fd) (hm : mg "_law_same" = some (.ref f)) (g_bool : mg "bool" = none) (g_int : mg "int" = none) (g_isinstance : mg "isinstance" = none) (g_len : mg "len" = none) (g_list : mg "list" = none) (g_range : mg "range" = none) (g_str : mg "str" = none) (g_tuple : mg "tuple" = none) (n : Nat) : Fo P w K mg base cl xc (0 + n) "_law_same" 2 (f__law_same n) := by
  have S : FnScope ["actual", "due", "k"] ["actual", "due"] (defScope t__law_same) := ⟨by kernel_rfl, by kernel_rfl, by kernel_rfl, by decide +kernel, by kernel_rfl, by decide +kernel, by decide +kernel⟩
  have nd := S.nd
  induction n with
  | zero => exact fo_no (ps := ["actual", "due"]) F hm (fun _ _ _ _ _ _ us hl => match us, hl with | [_, _], _ => rfl)
  | succ n ih =>
    have G__law_same := ih
    refine fo_def (k := 0 + n) F hm S (fun _ _ _ _ _ _ us hl => match us, hl with | [_, _], _ => rfl) (fun cdv A outer s H E hr => ?_)
    have tk := takes_of (X := cxOf (L2.CX P w) P w K mg base ["actual", "due", "k"] "_law_same" (defScope t__law_same) f cdv A outer s H E) (E := E) rfl rfl rfl rfl
    have po := passes_of (X := cxOf (L2.CX P w) P w K mg base ["actual", "due", "k"] "_law_same" (defScope t__law_same) f cdv A outer s H E) rfl
    exact st_cons (st_if (t_w (t_or (t_sc (t_sv (s_is g_isinstance bo_tuple g_tuple (p_l (l_v 1))))) (t_or1 (t_sc (t_sv (s_is g_isinstance bo_list g_list (p_l (l_v 1)))))))) (st_cons (st_if (t_w (t_or (t_sc (t_c1 c_ne (s_is g_isinstance bo_tuple g_tuple (p_l (l_v 1))) (s_is g_isinstance bo_tuple g_tuple (p_l (l_v 0))))) (t_or1 (t_sc (t_c1 c_ne (s_is g_isinstance bo_list g_list (p_l (l_v 1))) (s_is g_isinstance bo_list g_list (p_l (l_v 0)))))))) (st_cons (st_ret (d_sc (s_bl)))
      (st_nil)) (st_nil))
      (st_cons (st_if (t_sc (t_c1 c_ne (s_f cb_len bo_len g_len (pp_c (p_l (l_v 0)) (pp_nil))) (s_f cb_len bo_len g_len (pp_c (p_l (l_v 1)) (pp_nil))))) (st_cons (st_ret (d_sc (s_bl)))
      (st_nil)) (st_nil))
      (st_cons (st_f po rfl [2] (i_1 g_range (a_c (d_sc (s_f cb_len bo_len g_len (pp_c (p_l (l_v 1)) (pp_nil)))) (d_a0))) (g_v nd 2) (st_cons (st_if (t_not (t_dv (d_call1 tk G__law_same hr (av (d_fz (d_ld (l_x (l_v 0) (s_v 2)))) (av (d_fz (d_ld (l_x (l_v 1) (s_v 2)))) (ar_nil))) (hjk := by omega)))) (st_cons (st_ret (d_sc (s_bl)))
      (st_nil)) (st_nil))
      (st_nil)))
      (st_cons (st_ret (d_sc (s_bl)))
      (st_nil))))) (st_nil))
      (st_cons (st_if (t_sc (ts_isN (p_l (l_v 1)))) (st_cons (st_ret (d_sc (s_isN (p_l (l_v 0)))))
      (st_nil)) (st_nil))
      (st_cons (st_if (t_sc (t_sv (s_is g_isinstance bo_bool g_bool (p_l (l_v 1))))) (st_cons (st_ret (d_andV (d_sc (s_is g_isinstance bo_bool g_bool (p_l (l_v 0)))) (d_andV1 (d_sc (s_q (q_eq (room_u hr)) (p_l (l_v 0)) (p_l (l_v 1)))))))
      (st_nil)) (st_nil))
      (st_cons (st_if (t_sc (t_sv (s_is g_isinstance bo_int g_int (p_l (l_v 1))))) (st_cons (st_ret (d_andV (d_sc (s_is g_isinstance bo_int g_int (p_l (l_v 0)))) (d_andV (d_notV (d_sc (s_is g_isinstance bo_bool g_bool (p_l (l_v 0))))) (d_andV1 (d_sc (s_q (q_eq (room_u hr)) (p_l (l_v 0)) (p_l (l_v 1))))))))
      (st_nil)) (st_nil))
      (st_cons (st_ret (d_andV (d_sc (s_is g_isinstance bo_str g_str (p_l (l_v 0)))) (d_andV1 (d_sc (s_q (q_eq (room_u hr)) (p_l (l_v 0)) (p_l (l_v 1)))))))
      (st_nil)))))
theorem ok__law_xor {f : Addr} {fd : FuncData} (F : FunD K "_law_xor" "_law_xor" (defArgs t__law_xor) (defBody t__law_xor) (defScope t__law_xor) [] [] f fd) (hm : mg "_law_xor" = some (.ref f)) : Fo P w K mg base cl xc 1 "_law_xor" 2 f__law_xor := by
  have S : FnScope ["a", "b"] ["a", "b"] (defScope t__law_xor) := ⟨by kernel_rfl, by kernel_rfl, by kernel_rfl, by decide +kernel, by kernel_rfl, by decide +kernel, by decide +kernel⟩
  have nd := S.nd
  refine fo_def F hm S (fun _ _ _ _ _ _ us hl => match us, hl with | [_, _], _ => rfl) (fun cdv A outer s H E hr => ?_)
  have tk := takes_of (X := cxOf (L2.CX P w) P w K mg base ["a", "b"] "_law_xor" (defScope t__law_xor) f cdv A outer s H E) (E := E) rfl rfl rfl rfl
  have po := passes_of (X := cxOf (L2.CX P w) P w K mg base ["a", "b"] "_law_xor" (defScope t__law_xor) f cdv A outer s H E) rfl
  exact st_cons (st_ret (d_sc (s_sub (s_or (s_v 0) (s_v 1)) (s_and (s_v 0) (s_v 1)))))
    (st_nil)
theorem ok__law_mul {f : Addr} {fd : FuncData} (F : FunD K "_law_mul" "_law_mul" (defArgs t__law_mul) (defBody t__law_mul) (defScope t__law_mul) [] [] f fd) (hm : mg "_law_mul" = some (.ref f)) (g_range : mg "range" = none) (G__law_xor : Fo P w K mg base cl xc 1 "_law_xor" 2 f__law_xor) : Fo P w K mg base cl xc 2 "_law_mul" 2 f__law_mul := by
  have S : FnScope ["a", "b", "total", "k"] ["a", "b"] (defScope t__law_mul) := ⟨by kernel_rfl, by kernel_rfl, by kernel_rfl, by decide +kernel, by kernel_rfl, by decide +kernel, by decide +kernel⟩
  have nd := S.nd
  refine fo_def F hm S (fun _ _ _ _ _ _ us hl => match us, hl with | [_, _], _ => rfl) (fun cdv A outer s H E hr => ?_)
  have tk := takes_of (X := cxOf (L2.CX P w) P w K mg base ["a", "b", "total", "k"] "_law_mul" (defScope t__law_mul) f cdv A outer s H E) (E := E) rfl rfl rfl rfl
  have po := passes_of (X := cxOf (L2.CX P w) P w K mg base ["a", "b", "total", "k"] "_law_mul" (defScope t__law_mul) f cdv A outer s H E) rfl
  exact st_cons (st_v nd 2 (d_sc (s_int)))
    (st_cons (st_f po rfl [3] (i_1 g_range (a_c (d_sc (s_int)) (d_a0))) (g_v nd 3) (st_cons (st_if (t_sc (t_c1 c_eq (s_and (s_shr (s_v 1) (s_v 3)) (s_int)) (s_int))) (st_cons (st_v nd 2 (d_call1 tk G__law_xor hr (av (d_sc (s_v 2)) (av (d_sc (s_shl (s_v 0) (s_v 3))) (ar_nil)))))
    (st_nil)) (st_nil))
    (st_nil)))
    (st_cons (st_f po rfl [3] (i_3 g_range (a_c (d_sc (s_int)) (a_c (d_sc (s_int)) (a_c (d_sc (s_neg (s_int))) (d_a0))))) (g_v nd 3) (st_cons (st_if (t_sc (t_c1 c_eq (s_and (s_shr (s_v 2) (s_v 3)) (s_int)) (s_int))) (st_cons (st_v nd 2 (d_call1 tk G__law_xor hr (av (d_sc (s_v 2)) (av (d_sc (s_shl (s_int) (s_sub (s_v 3) (s_int)))) (ar_nil)))))
    (st_nil)) (st_nil))
    (st_nil)))
    (st_cons (st_ret (d_sc (s_v 2)))
    (st_nil))))
theorem ok_law {f : Addr} {fd : FuncData} (F : FunD K "law" "law" (defArgs t_law) (defBody t_law) (defScope t_law) [] [] f fd) (g_min : mg "min" = none) (g_range : mg "range" = none) (G_plus : Fo P w K mg base cl xc 2 "plus" 2 f_plus) (G_times : Fo P w K mg base cl xc 1 "times" 2 f_times) (G__law_pool : Fo P w K mg base cl xc 1 "_law_pool" 1 f__law_pool) (G__law_draw : Fo P w K mg base cl xc 2 "_law_draw" 2 f__law_draw) (G__law_same : Fo P w K mg base cl xc 12 "_law_same" 2 (f__law_same 12)) (G__law_xor : Fo P w K mg base cl xc 1 "_law_xor" 2 f__law_xor) (G__law_mul : Fo P w K mg base cl xc 2 "_law_mul" 2 f__law_mul) : FnOk P w K mg base (L2.CX P w) 13 f fd ["script"] (spF K cl xc 1 f_law) := by
  have S : FnScope ["script", "pool", "turn", "a", "b"] ["script"] (defScope t_law) := ⟨by kernel_rfl, by kernel_rfl, by kernel_rfl, by decide +kernel, by kernel_rfl, by decide +kernel, by decide +kernel⟩
  have nd := S.nd
  refine fn_def F S (fun cdv A outer s H E hr => ?_)
  have tk := takes_of (X := cxOf (L2.CX P w) P w K mg base ["script", "pool", "turn", "a", "b"] "law" (defScope t_law) f cdv A outer s H E) (E := E) rfl rfl rfl rfl
  have po := passes_of (X := cxOf (L2.CX P w) P w K mg base ["script", "pool", "turn", "a", "b"] "law" (defScope t_law) f cdv A outer s H E) rfl
  exact st_cons (st_v nd 1 (d_call1 tk G__law_pool hr (av (d_v 0) (ar_nil))))
    (st_cons (st_f po rfl [2] (i_1 g_range (a_c (d_sc (s_int)) (d_a0))) (g_v nd 2) (st_cons (st_v nd 3 (d_call1 tk G__law_draw hr (al (l_v 1) (av (d_sc (s_int)) (ar_nil)))))
    (st_cons (st_v nd 4 (d_x (d_lst (a_c (d_call1 tk G__law_draw hr (al (l_v 1) (av (d_sc (s_int)) (ar_nil)))) (a_c (d_sc (s_v 3)) (a_c (d_sc (s_int)) (a_c (d_sc (s_int)) (d_a0)))))) (d_f (cb_min2 rfl) bo_min g_min (a_c (d_sc (s_int)) (a_c (d_div (d_call1 tk G__law_draw hr (al (l_v 1) (av (d_sc (s_int)) (ar_nil)))) (d_sc (s_int))) (d_a0))))))
    (st_cons (st_if (t_w (t_or (t_not (t_dv (d_call1 tk G__law_same hr (av (d_fz (d_call1 tk G_plus hr (av (d_sc (s_v 3)) (av (d_sc (s_v 4)) (ar_nil))))) (av (d_fz (d_call1 tk G__law_xor hr (av (d_sc (s_v 3)) (av (d_sc (s_v 4)) (ar_nil))))) (ar_nil)))))) (t_or1 (t_not (t_dv (d_call1 tk G__law_same hr (av (d_fz (d_call1 tk G_times hr (av (d_sc (s_v 3)) (av (d_sc (s_v 4)) (ar_nil))))) (av (d_fz (d_call1 tk G__law_mul hr (av (d_sc (s_v 3)) (av (d_sc (s_v 4)) (ar_nil))))) (ar_nil))))))))) (st_cons (st_ret (d_sc (s_bl)))
    (st_nil)) (st_nil))
    (st_nil)))))
    (st_cons (st_ret (d_sc (s_bl)))
    (st_nil)))
end
end Rf
namespace Rf
open PySem PySem.Spec PyProof.Rows L2
def q_digits_of : He.DefD := ⟨("digits_of", none), "digits_of", "digits_of", defArgs t_digits_of, defBody t_digits_of, defScope t_digits_of, [], []⟩
def q_number_of : He.DefD := ⟨("number_of", none), "number_of", "number_of", defArgs t_number_of, defBody t_number_of, defScope t_number_of, [], []⟩
def q_plus : He.DefD := ⟨("plus", none), "plus", "plus", defArgs t_plus, defBody t_plus, defScope t_plus, [], []⟩
def q_times : He.DefD := ⟨("times", none), "times", "times", defArgs t_times, defBody t_times, defScope t_times, [], []⟩
def q__law_pool : He.DefD := ⟨("_law_pool", none), "_law_pool", "_law_pool", defArgs t__law_pool, defBody t__law_pool, defScope t__law_pool, [], []⟩
def q__law_spread : He.DefD := ⟨("_law_spread", none), "_law_spread", "_law_spread", defArgs t__law_spread, defBody t__law_spread, defScope t__law_spread, [], []⟩
def q__law_draw : He.DefD := ⟨("_law_draw", none), "_law_draw", "_law_draw", defArgs t__law_draw, defBody t__law_draw, defScope t__law_draw, [], []⟩
def q__law_same : He.DefD := ⟨("_law_same", none), "_law_same", "_law_same", defArgs t__law_same, defBody t__law_same, defScope t__law_same, [], []⟩
def q__law_xor : He.DefD := ⟨("_law_xor", none), "_law_xor", "_law_xor", defArgs t__law_xor, defBody t__law_xor, defScope t__law_xor, [], []⟩
def q__law_mul : He.DefD := ⟨("_law_mul", none), "_law_mul", "_law_mul", defArgs t__law_mul, defBody t__law_mul, defScope t__law_mul, [], []⟩
def q_law : He.DefD := ⟨("law", none), "law", "law", defArgs t_law, defBody t_law, defScope t_law, [], []⟩
def allD : List He.DefD := [q_digits_of, q_number_of, q_plus, q_times, q__law_pool, q__law_spread, q__law_draw, q__law_same, q__law_xor, q__law_mul, q_law]
def allF : List He.Fa := [.glo "digits_of", .glo "number_of", .glo "plus", .glo "times", .glo "_law_pool", .glo "_law_spread", .glo "_law_draw", .glo "_law_same", .glo "_law_xor", .glo "_law_mul", .glo "law", .free "bool", .free "int", .free "isinstance", .free "len", .free "list", .free "min", .free "range", .free "str", .free "tuple", .free "zip", .int "SIZE" 32]
abbrev RR : PySem.W.OpenRow := PySem.W.OpenLaw.row PySem.Challenge.rw_dapple_k01_sums_and_products
def allC : CoL := [("POWERS", k_POWERS), ("EXPONENTS", k_EXPONENTS)]
def exN : List Str := []
def clN : List Str := []
def clOf (K : PySem.W.Frag) (c : Nat) : Addr := He.ga K (clN.getD c "")
def chk (K : PySem.W.Frag) : Bool := conAll K allC
abbrev hk : PySem.W.Hook := hookF 4 allF allD chk
def obT (s : PySem.W.SharedT) : Bool × He.AlD := obsF 4 allF allD chk (HandSHeadRun.getT s)
theorem obT_eq (s : PySem.W.SharedT) : obT s = hk.obs s.abs := obsF_eq (HandSHeadRun.getT_eq s)
def loose : List Str := (["SIZE", "POWERS", "EXPONENTS", "digits_of", "number_of", "plus", "times", "_law_pool", "_law_spread", "_law_draw", "_law_same", "_law_xor", "_law_mul"] : List Str)
theorem ran (w : World) : HandSHeadRun.RunEq RR (PySem.W.view RR.prog [15]) hk obT 4000 loose w := by
  intro os
  kernel_rfl
theorem told {P : Program} {w : World} {K : PySem.W.Frag} {h : Heap} {mg : Str → Option Value} {f : Addr} (X : K.In h) (G : h.Ns mainGlobals mg) (hfa : mg ("law" : Str) = some (.ref f)) (c : He.SaysD allF allD K) (ck : chk K = true) :
    ∃ fd : FuncData, (∀ (s : Shared) (v : Value), BindsTo s fd ⟨[v], []⟩ [("script", v)]) ∧ ∀ base : Heap, K.In base → base.Ns mainGlobals mg → FnOk P w K mg base (L2.CX P w) 13 f fd ["script"] (spF K (clOf K) (xcOf K exN []) 1 f_law) := by
  unfold chk at ck
  have cc := ck
  have m_digits_of : mg "digits_of" = some (.ref (He.ga K "digits_of")) := He.glo_ok X G (c.fact 0 (f := .glo "digits_of") rfl)
  have m_number_of : mg "number_of" = some (.ref (He.ga K "number_of")) := He.glo_ok X G (c.fact 1 (f := .glo "number_of") rfl)
  have m_plus : mg "plus" = some (.ref (He.ga K "plus")) := He.glo_ok X G (c.fact 2 (f := .glo "plus") rfl)
  have m_times : mg "times" = some (.ref (He.ga K "times")) := He.glo_ok X G (c.fact 3 (f := .glo "times") rfl)
  have m__law_pool : mg "_law_pool" = some (.ref (He.ga K "_law_pool")) := He.glo_ok X G (c.fact 4 (f := .glo "_law_pool") rfl)
  have m__law_spread : mg "_law_spread" = some (.ref (He.ga K "_law_spread")) := He.glo_ok X G (c.fact 5 (f := .glo "_law_spread") rfl)
  have m__law_draw : mg "_law_draw" = some (.ref (He.ga K "_law_draw")) := He.glo_ok X G (c.fact 6 (f := .glo "_law_draw") rfl)
  have m__law_same : mg "_law_same" = some (.ref (He.ga K "_law_same")) := He.glo_ok X G (c.fact 7 (f := .glo "_law_same") rfl)
  have m__law_xor : mg "_law_xor" = some (.ref (He.ga K "_law_xor")) := He.glo_ok X G (c.fact 8 (f := .glo "_law_xor") rfl)
  have m__law_mul : mg "_law_mul" = some (.ref (He.ga K "_law_mul")) := He.glo_ok X G (c.fact 9 (f := .glo "_law_mul") rfl)
  have m_law : mg "law" = some (.ref (He.ga K "law")) := He.glo_ok X G (c.fact 10 (f := .glo "law") rfl)
  have g_bool : mg "bool" = none := He.free_ok X G (c.fact 11 (f := .free "bool") rfl)
  have g_int : mg "int" = none := He.free_ok X G (c.fact 12 (f := .free "int") rfl)
  have g_isinstance : mg "isinstance" = none := He.free_ok X G (c.fact 13 (f := .free "isinstance") rfl)
  have g_len : mg "len" = none := He.free_ok X G (c.fact 14 (f := .free "len") rfl)
  have g_list : mg "list" = none := He.free_ok X G (c.fact 15 (f := .free "list") rfl)
  have g_min : mg "min" = none := He.free_ok X G (c.fact 16 (f := .free "min") rfl)
  have g_range : mg "range" = none := He.free_ok X G (c.fact 17 (f := .free "range") rfl)
  have g_str : mg "str" = none := He.free_ok X G (c.fact 18 (f := .free "str") rfl)
  have g_tuple : mg "tuple" = none := He.free_ok X G (c.fact 19 (f := .free "tuple") rfl)
  have g_zip : mg "zip" = none := He.free_ok X G (c.fact 20 (f := .free "zip") rfl)
  have g_SIZE : ∃ t, mg "SIZE" = some (.int 32 t) := He.int_ok X G (c.fact 21 (f := .int "SIZE" 32) rfl)
  have g_POWERS : Con K mg "POWERS" k_POWERS := con_at X G cc 0
  have g_EXPONENTS : Con K mg "EXPONENTS" k_EXPONENTS := con_at X G cc 1
  obtain ⟨fd_digits_of, F_digits_of⟩ := c.def_ 0 (d := q_digits_of) rfl
  obtain ⟨fd_number_of, F_number_of⟩ := c.def_ 1 (d := q_number_of) rfl
  obtain ⟨fd_plus, F_plus⟩ := c.def_ 2 (d := q_plus) rfl
  obtain ⟨fd_times, F_times⟩ := c.def_ 3 (d := q_times) rfl
  obtain ⟨fd__law_pool, F__law_pool⟩ := c.def_ 4 (d := q__law_pool) rfl
  obtain ⟨fd__law_spread, F__law_spread⟩ := c.def_ 5 (d := q__law_spread) rfl
  obtain ⟨fd__law_draw, F__law_draw⟩ := c.def_ 6 (d := q__law_draw) rfl
  obtain ⟨fd__law_same, F__law_same⟩ := c.def_ 7 (d := q__law_same) rfl
  obtain ⟨fd__law_xor, F__law_xor⟩ := c.def_ 8 (d := q__law_xor) rfl
  obtain ⟨fd__law_mul, F__law_mul⟩ := c.def_ 9 (d := q__law_mul) rfl
  obtain ⟨fd_law, F_law⟩ := c.def_ 10 (d := q_law) rfl
  have e := hfa.symm.trans m_law
  cases e
  have b := FunD.bindsA (ps := ["script"]) F_law fun _ _ _ _ _ _ us hl => match us, hl with | [_], _ => rfl
  refine ⟨fd_law, fun s v => b s [v] rfl, fun base _ _ => ?_⟩
  have G_digits_of : Fo P w K mg base (clOf K) (xcOf K exN []) 1 "digits_of" 2 f_digits_of := ok_digits_of F_digits_of m_digits_of g_range
  have G_number_of : Fo P w K mg base (clOf K) (xcOf K exN []) 1 "number_of" 1 f_number_of := ok_number_of F_number_of m_number_of 
  have G_plus : Fo P w K mg base (clOf K) (xcOf K exN []) 2 "plus" 2 f_plus := ok_plus F_plus m_plus g_zip G_digits_of G_number_of
  have G_times : Fo P w K mg base (clOf K) (xcOf K exN []) 1 "times" 2 f_times := ok_times F_times m_times g_EXPONENTS g_POWERS g_SIZE
  have G__law_pool : Fo P w K mg base (clOf K) (xcOf K exN []) 1 "_law_pool" 1 f__law_pool := ok__law_pool F__law_pool m__law_pool g_int g_list
  have G__law_spread : Fo P w K mg base (clOf K) (xcOf K exN []) 1 "_law_spread" 1 f__law_spread := ok__law_spread F__law_spread m__law_spread g_int g_range
  have G__law_draw : Fo P w K mg base (clOf K) (xcOf K exN []) 2 "_law_draw" 2 f__law_draw := ok__law_draw F__law_draw m__law_draw g_int g_len G__law_spread
  have G__law_same : Fo P w K mg base (clOf K) (xcOf K exN []) 12 "_law_same" 2 (f__law_same 12) := ok__law_same F__law_same m__law_same g_bool g_int g_isinstance g_len g_list g_range g_str g_tuple 12
  have G__law_xor : Fo P w K mg base (clOf K) (xcOf K exN []) 1 "_law_xor" 2 f__law_xor := ok__law_xor F__law_xor m__law_xor 
  have G__law_mul : Fo P w K mg base (clOf K) (xcOf K exN []) 2 "_law_mul" 2 f__law_mul := ok__law_mul F__law_mul m__law_mul g_range G__law_xor
  exact ok_law F_law g_min g_range G_plus G_times G__law_pool G__law_draw G__law_same G__law_xor G__law_mul
end Rf
namespace Rf
open PySem L2
/-- a pool: the script's numbers, the place, the number at hand, the turns, the salt -/
def PoolD (p : D) : Prop := ∃ (o : Ow) (xs : List Int) (i v c s : Int), p = .obj .own .lst [.obj o .lst (xs.map D.int), .int i, .int v, .int c, .int s] ∧ 0 ≤ i
theorem pool_ok (ns : List Int) : ∃ p, PoolD p ∧ f__law_pool [scr ns] = .ok p [scr ns] := by
  have h5 : 5 ≤ sizeLine := by rw [sizeLine_eq]; decide
  obtain ⟨m', e, s, k, rfl⟩ := loopF_inv (g := gNm 2) (b := l__law_pool_1) (fun _ m => ∃ (s : Int) (k : D), m = ⟨[.len 0, .val (.int s), .val k], [scr ns]⟩) ((cutD ns none (some 63)).map D.int) (by
    rintro i d m hd ⟨s, k, rfl⟩
    rw [List.getElem?_map] at hd
    cases h : (cutD ns none (some 63))[i]? with
    | none => rw [h] at hd; cases hd
    | some x =>
      rw [h] at hd
      cases hd
      exact ⟨_, ⟨[.len 0, .val (.int ((s * 31 + x) % 1000003)), .val (.int x)], [scr ns]⟩, rfl, by simp [l__law_pool_1], _, _, rfl⟩) ⟨[.len 0, .val (.int 7), .val .abs], [scr ns]⟩ ⟨_, _, rfl⟩
  refine ⟨.obj .own .lst [.obj .own .lst (ns.map D.int), .int 0, .int 0, .int 0, .int s], ⟨.own, ns, 0, 0, 0, s, rfl, by decide⟩, ?_⟩
  unfold scr at e ⊢
  simp [f__law_pool, b__law_pool, e, h5, List.replicate]
theorem spread_ok (c : Int) : ∃ v : Int, f__law_spread [.int c] = .ok (.int v) [.int c] := by
  obtain ⟨m', e, a, b, k, rfl⟩ := loopR_inv (g := gNm 3) (b := l__law_spread_1) (lo := 0) (c := 1) (n := 4) (fun _ m => ∃ (a b : Int) (k : D), m = ⟨[.len 0, .val (.int a), .val (.int b), .val k], [.int c]⟩) (by
    rintro i m hi ⟨a, b, k, rfl⟩
    exact ⟨_, ⟨[.len 0, .val (.int ((a * 48271 + 12345 + (i : Int)) % 2147483647)), .val (.int (b * 2147483647 + (a * 48271 + 12345 + (i : Int)) % 2147483647)), .val (.int i)], [.int c]⟩, rfl, by simp [l__law_spread_1], _, _, _, rfl⟩) ⟨[.len 0, .val (.int (c % 2147483647)), .val (.int 1), .val .abs], [.int c]⟩ ⟨_, _, _, rfl⟩
  exact ⟨b, by simp [f__law_spread, b__law_spread, e, List.replicate]⟩
theorem draw_ok (p : D) (hp : PoolD p) (n : Int) (h0 : 0 < n) (hn : n < 1073741824) : ∃ (r : Int) (p' : D), (0 ≤ r ∧ r < n) ∧ PoolD p' ∧ f__law_draw [p, .int n] = .ok (.int r) [p', .int n] := by
  obtain ⟨o, xs, i, v, c, s, rfl, hi⟩ := hp
  -- the later part, at any number at hand
  have late : ∀ (i v : Int) (x3 : D), 0 ≤ i → ∃ (r : Int) (p' : D), (0 ≤ r ∧ r < n) ∧ PoolD p' ∧ rcOf ((dSeq (dSetIx 0 [] (sC (.int 3)) (dS (sBin oAdd (sLd 0 ([] ++ [.ix (sC (.int 3))])) (sC (.int 1)))))
  (dSeq (dIfS (dTs (sT (sBin oLe (sLd 0 ([] ++ [.ix (sC (.int 2))])) (sC (.int 0))))) (dSeq (dAsg (gNm 4) (dS (sBin oMod (pOp bInt [(sS (sBin oAdd (sBin oAdd (sBin oMul (sLd 0 ([] ++ [.ix (sC (.int 4))])) (sC (.int 48271))) (sBin oMul (sLd 0 ([] ++ [.ix (sC (.int 3))])) (sC (.int 69621)))) (sC (.int 1))))]) (sC (.int 2147483647)))))
  (dSeq (dAsg (gNm 4) (dS (sBin oMod (pOp bInt [(sS (sBin oAdd (sBin oMul (sLd 4 []) (sC (.int 16807))) (sLd 0 ([] ++ [.ix (sC (.int 3))]))))]) (sC (.int 2147483629)))))
  (dSeq (dRet (dS (sBin oMod (sBin oDiv (sLd 4 []) (sC (.int 5))) (sLd 1 []))))
  dNx))) dNx)
  (dSeq (dAsg (gNm 2) (dS (sBin oMod (pOp bInt [(pLd 0 ([] ++ [.ix (sC (.int 2))]))]) (sLd 1 []))))
  (dSeq (dSetIx 0 [] (sC (.int 2)) (dS (sBin oDiv (sLd 0 ([] ++ [.ix (sC (.int 2))])) (sLd 1 []))))
  (dSeq (dRet (dS (sLd 2 [])))
  dNx))))) ⟨[.len 0, .len 1, .val .abs, .val x3, .val .abs], [.obj .own .lst [.obj o .lst (xs.map D.int), .int i, .int v, .int c, .int s], .int n]⟩) = .ok (.int r) [p', .int n] := by
    intro i v x3 hi
    by_cases hv : v ≤ 0
    · refine ⟨_, _, ?_, ⟨o, xs, i, v, c + 1, s, rfl, hi⟩, by simp [hv, h0]; rfl⟩
      exact ⟨Int.emod_nonneg _ (by omega), Int.emod_lt_of_pos _ h0⟩
    · refine ⟨v % n, _, ⟨Int.emod_nonneg _ (by omega), Int.emod_lt_of_pos _ h0⟩, ⟨o, xs, i, v / n, c + 1, s, rfl, hi⟩, by simp [hv, h0, hn]⟩
  unfold f__law_draw b__law_draw
  by_cases hv : v ≤ 0
  · by_cases hx : i < xs.length
    · have e1 : ixN xs.length i = some i.toNat := ixN_pos hi hx
      have e2 : xs[i.toNat]? = some (xs[i.toNat]'(by omega)) := List.getElem?_eq_getElem (by omega)
      by_cases hc : xs[i.toNat]'(by omega) < 1000000000000000000
      · obtain ⟨w, ew⟩ := spread_ok (xs[i.toNat]'(by omega))
        obtain ⟨r, p', h1, h2, h3⟩ := late (i + 1) w (.int (xs[i.toNat]'(by omega))) (by omega)
        refine ⟨r, p', h1, h2, ?_⟩
        rw [runB_m (by rfl), ← h3]
        congr 1
        rw [dSeq_nx (m' := ⟨[.len 0, .len 1, .val .abs, .val (.int (xs[i.toNat]'(by omega))), .val .abs], [.obj .own .lst [.obj o .lst (xs.map D.int), .int (i + 1), .int w, .int c, .int s], .int n]⟩)]
        simp [hv, hx, e1, e2, hc, ew, List.replicate]
      · obtain ⟨r, p', h1, h2, h3⟩ := late (i + 1) (xs[i.toNat]'(by omega)) (.int (xs[i.toNat]'(by omega))) (by omega)
        refine ⟨r, p', h1, h2, ?_⟩
        rw [runB_m (by rfl), ← h3]
        congr 1
        rw [dSeq_nx (m' := ⟨[.len 0, .len 1, .val .abs, .val (.int (xs[i.toNat]'(by omega))), .val .abs], [.obj .own .lst [.obj o .lst (xs.map D.int), .int (i + 1), .int (xs[i.toNat]'(by omega)), .int c, .int s], .int n]⟩)]
        simp [hv, hx, e1, e2, hc, List.replicate]
    · obtain ⟨r, p', h1, h2, h3⟩ := late i v .abs hi
      refine ⟨r, p', h1, h2, ?_⟩
      rw [runB_m (by rfl), ← h3]
      congr 1
      rw [dSeq_nx (m' := ⟨[.len 0, .len 1, .val .abs, .val .abs, .val .abs], [.obj .own .lst [.obj o .lst (xs.map D.int), .int i, .int v, .int c, .int s], .int n]⟩)]
      simp [hv, hx, List.replicate]
  · obtain ⟨r, p', h1, h2, h3⟩ := late i v .abs hi
    refine ⟨r, p', h1, h2, ?_⟩
    rw [runB_m (by rfl), ← h3]
    congr 1
    rw [dSeq_nx (m' := ⟨[.len 0, .len 1, .val .abs, .val .abs, .val .abs], [.obj .own .lst [.obj o .lst (xs.map D.int), .int i, .int v, .int c, .int s], .int n]⟩)]
    simp [hv, List.replicate]

theorem beqD {α : Type} [DecidableEq α] [BEq α] [LawfulBEq α] (x y : α) : (x == y) = decide (x = y) := by
  rw [Bool.eq_iff_iff]
  simp
theorem pls_get : ∀ {ds : List D} {i : Nat} {d : D}, pls ds = true → ds[i]? = some d → pl d = true
  | [], _, _, _, h => by simp at h
  | d :: ds, 0, _, h, e => by
    simp at e; subst e
    unfold pls at h
    exact (band2 h).1
  | d :: ds, i + 1, _, h, e => by
    unfold pls at h
    exact pls_get (band2 h).2 (i := i) (by simpa using e)
theorem deps_get : ∀ {ds : List D} {i : Nat} {d : D}, ds[i]? = some d → dep d ≤ deps ds
  | [], _, _, h => by simp at h
  | d :: ds, 0, _, e => by
    simp at e; subst e
    unfold deps
    omega
  | d :: ds, i + 1, _, e => by
    have := deps_get (ds := ds) (i := i) (by simpa using e)
    unfold deps
    omega
theorem pl_frz {d : D} (h : pl d = true) : frz d = d := by
  cases d with
  | obj o k ds =>
    cases o with
    | own => cases k <;> simp [pl] at h
    | shr => simp
    | con => simp
  | _ => first | rfl | cases h
/-- a step within the places that are compared -/
theorem same_ld (o : Ow) (k : Kd) (hk : k = .lst ∨ k = .tup) (cs : List D) (i j : Nat) (c : D) (hc : cs[j]? = some c) (pc : pl c = true) (m : M) (hm : rd m i = .obj o k cs) (s : SF) (hs : s m = some (.int j)) :
    dFz (dLd i ([] ++ [.ix s])) m = .ok c m := by
  have hj : j < cs.length := (List.getElem?_eq_some_iff.mp hc).1
  have e : resolve m (rd m i) ([] ++ [.ix s]) = some ([.ix j], c) := by
    rw [hm, List.nil_append]
    rcases hk with rfl | rfl
    · rw [resolve_cons, step1_l, hs]
      simp only [ixN_nat hj, hc, Option.map_some]
      rfl
    · rw [resolve_cons, step1_t, hs]
      simp only [ixN_nat hj, hc, Option.map_some]
      rfl
  have e2 : dLd i ([] ++ [.ix s]) m = .ok c m := by
    rw [dLd_ap, e]
    cases c with
    | obj o' k' ds =>
      cases o' with
      | own => cases k' <;> simp [pl] at pc
      | shr => rfl
      | con => rfl
    | abs => cases pc
    | _ => rfl
  rw [dFz_ap, e2, R.bind_ok, pl_frz pc]
theorem same_loop (n : Nat) (ih : ∀ a b : D, pl a = true → pl b = true → dep b < n → f__law_same n [a, b] = .ok (.bl (same a b)) [a, b]) (o o' : Ow) (k : Kd) (hk : k = .lst ∨ k = .tup) (cs ds : List D) (hl : cs.length = ds.length) (pc : pls cs = true) (pd : pls ds = true) (hd : deps ds < n) :
    ∀ (j t : Nat) (x : D), t + j = ds.length → ∃ x', loopF (gNm 2) (l__law_same_1 (f__law_same n)) ((List.range' t j).map fun (k : Nat) => D.int (0 + (k : Int) * 1)) ⟨[.len 0, .len 1, .val x], [.obj o k cs, .obj o' k ds]⟩ =
      if sames (cs.drop t) (ds.drop t) = true then .ok .nx ⟨[.len 0, .len 1, .val x'], [.obj o k cs, .obj o' k ds]⟩ else .ok (.rt (.bl false)) ⟨[.len 0, .len 1, .val x'], [.obj o k cs, .obj o' k ds]⟩
  | 0, t, x, ht => by
    refine ⟨x, ?_⟩
    rw [List.drop_eq_nil_of_le (by omega), List.drop_eq_nil_of_le (by omega)]
    rfl
  | j + 1, t, x, ht => by
    have h1 : t < ds.length := by omega
    have h2 : t < cs.length := by omega
    have e1 : cs[t]? = some cs[t] := List.getElem?_eq_getElem h2
    have e2 : ds[t]? = some ds[t] := List.getElem?_eq_getElem h1
    have p1 := pls_get pc e1
    have p2 := pls_get pd e2
    have hi := ih cs[t] ds[t] p1 p2 (by have := deps_get e2; omega)
    obtain ⟨x', hx⟩ := same_loop n ih o o' k hk cs ds hl pc pd hd j (t + 1) (.int t) (by omega)
    have a1 := same_ld o k hk cs 0 t _ e1 p1 ⟨[.len 0, .len 1, .val (.int t)], [.obj o k cs, .obj o' k ds]⟩ rfl (sLd 2 []) (by simp)
    have a2 := same_ld o' k hk ds 1 t _ e2 p2 ⟨[.len 0, .len 1, .val (.int t)], [.obj o k cs, .obj o' k ds]⟩ rfl (sLd 2 []) (by simp)
    have eb : (dCall (f__law_same n) [.v (dFz (dLd 0 ([] ++ [.ix (sLd 2 [])]))), .v (dFz (dLd 1 ([] ++ [.ix (sLd 2 [])])))]) ⟨[.len 0, .len 1, .val (.int t)], [.obj o k cs, .obj o' k ds]⟩ = .ok (.bl (same cs[t] ds[t])) ⟨[.len 0, .len 1, .val (.int t)], [.obj o k cs, .obj o' k ds]⟩ := by
      rw [dCall_ap, dArgs_v, a1, R.bind_ok, dArgs_v, a2, R.bind_ok]
      simp [hi]
    have es : sames (cs.drop t) (ds.drop t) = (same cs[t] ds[t] && sames (cs.drop (t + 1)) (ds.drop (t + 1))) := by
      rw [List.drop_eq_getElem_cons h2, List.drop_eq_getElem_cons h1]
      conv => lhs; unfold sames
    rw [List.range'_succ, List.map_cons]
    unfold loopF
    rw [show gNm 2 (.int (0 + (t : Int) * 1)) ⟨[.len 0, .len 1, .val x], [.obj o k cs, .obj o' k ds]⟩ = some ⟨[.len 0, .len 1, .val (.int t)], [.obj o k cs, .obj o' k ds]⟩ by simp]
    rw [es]
    cases hs : same cs[t] ds[t] with
    | false =>
      refine ⟨.int t, ?_⟩
      rw [hs] at eb
      have : l__law_same_1 (f__law_same n) ⟨[.len 0, .len 1, .val (.int t)], [.obj o k cs, .obj o' k ds]⟩ = .ok (.rt (.bl false)) ⟨[.len 0, .len 1, .val (.int t)], [.obj o k cs, .obj o' k ds]⟩ := by
        unfold l__law_same_1
        rw [dSeq_ap, dIfS_ap, dNot_ap, dT_ap, eb]
        rfl
      simp only [this, R.bind_ok, Bool.false_and, Bool.false_eq_true, if_false]
    | true =>
      refine ⟨x', ?_⟩
      rw [hs] at eb
      have : l__law_same_1 (f__law_same n) ⟨[.len 0, .len 1, .val (.int t)], [.obj o k cs, .obj o' k ds]⟩ = .ok .nx ⟨[.len 0, .len 1, .val (.int t)], [.obj o k cs, .obj o' k ds]⟩ := by
        unfold l__law_same_1
        rw [dSeq_ap, dIfS_ap, dNot_ap, dT_ap, eb]
        rfl
      simp only [this, R.bind_ok, Bool.true_and]
      exact hx
theorem pd_pl : ∀ {s : Str}, PyData.strOk s = true → pdS (.str s) = some (.str s) := fun {s} h => by
  simp [pdS, Rf.pd, SeqAt.shaped, PyData.canLay0, PyData.depth, h]
@[simp] theorem pdS_int (i : Int) : pdS (.int i) = some (.int i) := by simp [pdS, Rf.pd, SeqAt.shaped, PyData.canLay0, PyData.depth]
@[simp] theorem pdS_bl (i : Bool) : pdS (.bl i) = some (.bool i) := by simp [pdS, Rf.pd, SeqAt.shaped, PyData.canLay0, PyData.depth]
@[simp] theorem pdS_non : pdS .non = some .none := by simp [pdS, Rf.pd, SeqAt.shaped, PyData.canLay0, PyData.depth]
theorem sames_len : ∀ {cs ds : List D}, cs.length ≠ ds.length → sames cs ds = false
  | [], [], h => absurd rfl h
  | [], _ :: _, _ => by simp [sames]
  | _ :: _, [], _ => by simp [sames]
  | c :: cs, d :: ds, h => by
    show (same c d && sames cs ds) = false
    rw [sames_len (cs := cs) (ds := ds) (by simpa using h), Bool.and_false]
theorem same_ok : ∀ (n : Nat) (a b : D), pl a = true → pl b = true → dep b < n → f__law_same n [a, b] = .ok (.bl (same a b)) [a, b]
  | 0, _, _, _, _, h => absurd h (Nat.not_lt_zero _)
  | n + 1, a, b, pa, pb, hd => by
    have ih := fun a b => same_ok n a b
    show runB 2 3 (b__law_same (f__law_same n)) [a, b] = _
    cases b with
    | abs => cases pb
    | pin _ _ => cases pb
    | non =>
      cases a with
      | abs => cases pa
      | pin _ _ => cases pa
      | obj o k cs => cases k <;> first | (simp [pl] at pa; done) | simp [b__law_same, same, List.replicate]
      | _ => simp [b__law_same, same, List.replicate]
    | bl y =>
      cases a with
      | abs => cases pa
      | pin _ _ => cases pa
      | obj o k cs => cases k <;> first | (simp [pl] at pa; done) | simp [b__law_same, same, List.replicate]
      | bl x =>
        simp [b__law_same, same, List.replicate, oEqD, PyData.eqv]
        exact beqD _ _
      | _ => simp [b__law_same, same, List.replicate]
    | int y =>
      cases a with
      | abs => cases pa
      | pin _ _ => cases pa
      | obj o k cs => cases k <;> first | (simp [pl] at pa; done) | simp [b__law_same, same, List.replicate]
      | int x =>
        simp [b__law_same, same, List.replicate, oEqD, PyData.eqv]
        exact beqD _ _
      | _ => simp [b__law_same, same, List.replicate]
    | str y =>
      cases a with
      | abs => cases pa
      | pin _ _ => cases pa
      | obj o k cs => cases k <;> first | (simp [pl] at pa; done) | simp [b__law_same, same, List.replicate]
      | str x => 
        have h1 := pd_pl (show PyData.strOk x = true from pa)
        have h2 := pd_pl (show PyData.strOk y = true from pb)
        simp [b__law_same, same, List.replicate, oEqD, PyData.eqv, h1, h2]
        exact beqD _ _
      | _ => simp [b__law_same, same, List.replicate]
    | obj o k ds =>
      cases k with
      | lst =>
        have hb : (o ≠ .own ∧ ds.length < 1152921504606846976) ∧ pls ds = true := by simpa [pl] using pb
        cases a with
        | abs => cases pa
        | pin _ _ => cases pa
        | obj o1 k1 cs =>
          cases k1 with
          | lst =>
            have ha : (o1 ≠ .own ∧ cs.length < 1152921504606846976) ∧ pls cs = true := by simpa [pl] using pa
            by_cases hl : cs.length = ds.length
            · obtain ⟨x', hx⟩ := same_loop n ih o1 o .lst (.inl rfl) cs ds hl ha.2 hb.2 (by simp [dep] at hd; omega) ds.length 0 .abs (by omega)
              rw [← List.range_eq_range'] at hx
              have hn : ds.length < 4611686018427387904 := by omega
              have hx : loopF (gNm 2) (l__law_same_1 (f__law_same n)) (ilist 0 1 ds.length) ⟨[.len 0, .len 1, .val .abs], [.obj o1 .lst cs, .obj o .lst ds]⟩ = _ := hx
              simp only [List.drop_zero] at hx
              by_cases hs : sames cs ds = true
              · rw [if_pos hs] at hx
                simp [b__law_same, same, List.replicate, hl, hn, hx, hs]
              · rw [if_neg hs] at hx
                simp [b__law_same, same, List.replicate, hl, hn, hx, hs]
            · have hl2 : ¬ ((cs.length : Int) = (ds.length : Int)) := by omega
              simp [b__law_same, same, List.replicate, sames_len hl, hl2]
          | tup => simp [b__law_same, same, List.replicate]
          | _ => simp [pl] at pa
        | _ => simp [b__law_same, same, List.replicate]
      | tup =>
        have hb : (o ≠ .own ∧ ds.length < 1152921504606846976) ∧ pls ds = true := by simpa [pl] using pb
        cases a with
        | abs => cases pa
        | pin _ _ => cases pa
        | obj o1 k1 cs =>
          cases k1 with
          | tup =>
            have ha : (o1 ≠ .own ∧ cs.length < 1152921504606846976) ∧ pls cs = true := by simpa [pl] using pa
            by_cases hl : cs.length = ds.length
            · obtain ⟨x', hx⟩ := same_loop n ih o1 o .tup (.inr rfl) cs ds hl ha.2 hb.2 (by simp [dep] at hd; omega) ds.length 0 .abs (by omega)
              rw [← List.range_eq_range'] at hx
              have hn : ds.length < 4611686018427387904 := by omega
              have hx : loopF (gNm 2) (l__law_same_1 (f__law_same n)) (ilist 0 1 ds.length) ⟨[.len 0, .len 1, .val .abs], [.obj o1 .tup cs, .obj o .tup ds]⟩ = _ := hx
              simp only [List.drop_zero] at hx
              by_cases hs : sames cs ds = true
              · rw [if_pos hs] at hx
                simp [b__law_same, same, List.replicate, hl, hn, hx, hs]
              · rw [if_neg hs] at hx
                simp [b__law_same, same, List.replicate, hl, hn, hx, hs]
            · have hl2 : ¬ ((cs.length : Int) = (ds.length : Int)) := by omega
              simp [b__law_same, same, List.replicate, sames_len hl, hl2]
          | lst => simp [b__law_same, same, List.replicate]
          | _ => simp [pl] at pa
        | _ => simp [b__law_same, same, List.replicate]
      | _ => simp [pl] at pb

end Rf
namespace Rf
open PySem L2
def chP (a b : Nat) : Bool := match f_plus [.int a, .int b], f__law_xor [.int a, .int b] with
  | .ok (.int x) [.int p, .int q], .ok (.int y) [.int p', .int q'] => decide (x = y) && decide (p = a) && decide (q = b) && decide (p' = a) && decide (q' = b)
  | _, _ => false
def chT (a b : Nat) : Bool := match f_times [.int a, .int b], f__law_mul [.int a, .int b] with
  | .ok (.int x) [.int p, .int q], .ok (.int y) [.int p', .int q'] => decide (x = y) && decide (p = a) && decide (q = b) && decide (p' = a) && decide (q' = b)
  | _, _ => false
theorem pp_0 : ((List.range 32).all fun b => chP 0 b) = true := by kernel_rfl
theorem tt_0 : ((List.range 32).all fun b => chT 0 b) = true := by kernel_rfl
theorem pp_1 : ((List.range 32).all fun b => chP 1 b) = true := by kernel_rfl
theorem tt_1 : ((List.range 32).all fun b => chT 1 b) = true := by kernel_rfl
theorem pp_2 : ((List.range 32).all fun b => chP 2 b) = true := by kernel_rfl
theorem tt_2 : ((List.range 32).all fun b => chT 2 b) = true := by kernel_rfl
theorem pp_3 : ((List.range 32).all fun b => chP 3 b) = true := by kernel_rfl
theorem tt_3 : ((List.range 32).all fun b => chT 3 b) = true := by kernel_rfl
theorem pp_4 : ((List.range 32).all fun b => chP 4 b) = true := by kernel_rfl
theorem tt_4 : ((List.range 32).all fun b => chT 4 b) = true := by kernel_rfl
theorem pp_5 : ((List.range 32).all fun b => chP 5 b) = true := by kernel_rfl
theorem tt_5 : ((List.range 32).all fun b => chT 5 b) = true := by kernel_rfl
theorem pp_6 : ((List.range 32).all fun b => chP 6 b) = true := by kernel_rfl
theorem tt_6 : ((List.range 32).all fun b => chT 6 b) = true := by kernel_rfl
theorem pp_7 : ((List.range 32).all fun b => chP 7 b) = true := by kernel_rfl
theorem tt_7 : ((List.range 32).all fun b => chT 7 b) = true := by kernel_rfl
theorem pp_8 : ((List.range 32).all fun b => chP 8 b) = true := by kernel_rfl
theorem tt_8 : ((List.range 32).all fun b => chT 8 b) = true := by kernel_rfl
theorem pp_9 : ((List.range 32).all fun b => chP 9 b) = true := by kernel_rfl
theorem tt_9 : ((List.range 32).all fun b => chT 9 b) = true := by kernel_rfl
theorem pp_10 : ((List.range 32).all fun b => chP 10 b) = true := by kernel_rfl
theorem tt_10 : ((List.range 32).all fun b => chT 10 b) = true := by kernel_rfl
theorem pp_11 : ((List.range 32).all fun b => chP 11 b) = true := by kernel_rfl
theorem tt_11 : ((List.range 32).all fun b => chT 11 b) = true := by kernel_rfl
theorem pp_12 : ((List.range 32).all fun b => chP 12 b) = true := by kernel_rfl
theorem tt_12 : ((List.range 32).all fun b => chT 12 b) = true := by kernel_rfl
theorem pp_13 : ((List.range 32).all fun b => chP 13 b) = true := by kernel_rfl
theorem tt_13 : ((List.range 32).all fun b => chT 13 b) = true := by kernel_rfl
theorem pp_14 : ((List.range 32).all fun b => chP 14 b) = true := by kernel_rfl
theorem tt_14 : ((List.range 32).all fun b => chT 14 b) = true := by kernel_rfl
theorem pp_15 : ((List.range 32).all fun b => chP 15 b) = true := by kernel_rfl
theorem tt_15 : ((List.range 32).all fun b => chT 15 b) = true := by kernel_rfl
theorem pp_16 : ((List.range 32).all fun b => chP 16 b) = true := by kernel_rfl
theorem tt_16 : ((List.range 32).all fun b => chT 16 b) = true := by kernel_rfl
theorem pp_17 : ((List.range 32).all fun b => chP 17 b) = true := by kernel_rfl
theorem tt_17 : ((List.range 32).all fun b => chT 17 b) = true := by kernel_rfl
theorem pp_18 : ((List.range 32).all fun b => chP 18 b) = true := by kernel_rfl
theorem tt_18 : ((List.range 32).all fun b => chT 18 b) = true := by kernel_rfl
theorem pp_19 : ((List.range 32).all fun b => chP 19 b) = true := by kernel_rfl
theorem tt_19 : ((List.range 32).all fun b => chT 19 b) = true := by kernel_rfl
theorem pp_20 : ((List.range 32).all fun b => chP 20 b) = true := by kernel_rfl
theorem tt_20 : ((List.range 32).all fun b => chT 20 b) = true := by kernel_rfl
theorem pp_21 : ((List.range 32).all fun b => chP 21 b) = true := by kernel_rfl
theorem tt_21 : ((List.range 32).all fun b => chT 21 b) = true := by kernel_rfl
theorem pp_22 : ((List.range 32).all fun b => chP 22 b) = true := by kernel_rfl
theorem tt_22 : ((List.range 32).all fun b => chT 22 b) = true := by kernel_rfl
theorem pp_23 : ((List.range 32).all fun b => chP 23 b) = true := by kernel_rfl
theorem tt_23 : ((List.range 32).all fun b => chT 23 b) = true := by kernel_rfl
theorem pp_24 : ((List.range 32).all fun b => chP 24 b) = true := by kernel_rfl
theorem tt_24 : ((List.range 32).all fun b => chT 24 b) = true := by kernel_rfl
theorem pp_25 : ((List.range 32).all fun b => chP 25 b) = true := by kernel_rfl
theorem tt_25 : ((List.range 32).all fun b => chT 25 b) = true := by kernel_rfl
theorem pp_26 : ((List.range 32).all fun b => chP 26 b) = true := by kernel_rfl
theorem tt_26 : ((List.range 32).all fun b => chT 26 b) = true := by kernel_rfl
theorem pp_27 : ((List.range 32).all fun b => chP 27 b) = true := by kernel_rfl
theorem tt_27 : ((List.range 32).all fun b => chT 27 b) = true := by kernel_rfl
theorem pp_28 : ((List.range 32).all fun b => chP 28 b) = true := by kernel_rfl
theorem tt_28 : ((List.range 32).all fun b => chT 28 b) = true := by kernel_rfl
theorem pp_29 : ((List.range 32).all fun b => chP 29 b) = true := by kernel_rfl
theorem tt_29 : ((List.range 32).all fun b => chT 29 b) = true := by kernel_rfl
theorem pp_30 : ((List.range 32).all fun b => chP 30 b) = true := by kernel_rfl
theorem tt_30 : ((List.range 32).all fun b => chT 30 b) = true := by kernel_rfl
theorem pp_31 : ((List.range 32).all fun b => chP 31 b) = true := by kernel_rfl
theorem tt_31 : ((List.range 32).all fun b => chT 31 b) = true := by kernel_rfl
theorem pp_all (a : Nat) (ha : a < 32) : ((List.range 32).all fun b => chP a b) = true := by
  match a, ha with
  | 0, _ => exact pp_0
  | 1, _ => exact pp_1
  | 2, _ => exact pp_2
  | 3, _ => exact pp_3
  | 4, _ => exact pp_4
  | 5, _ => exact pp_5
  | 6, _ => exact pp_6
  | 7, _ => exact pp_7
  | 8, _ => exact pp_8
  | 9, _ => exact pp_9
  | 10, _ => exact pp_10
  | 11, _ => exact pp_11
  | 12, _ => exact pp_12
  | 13, _ => exact pp_13
  | 14, _ => exact pp_14
  | 15, _ => exact pp_15
  | 16, _ => exact pp_16
  | 17, _ => exact pp_17
  | 18, _ => exact pp_18
  | 19, _ => exact pp_19
  | 20, _ => exact pp_20
  | 21, _ => exact pp_21
  | 22, _ => exact pp_22
  | 23, _ => exact pp_23
  | 24, _ => exact pp_24
  | 25, _ => exact pp_25
  | 26, _ => exact pp_26
  | 27, _ => exact pp_27
  | 28, _ => exact pp_28
  | 29, _ => exact pp_29
  | 30, _ => exact pp_30
  | 31, _ => exact pp_31
  | n + 32, h => exact absurd h (by omega)
theorem tt_all (a : Nat) (ha : a < 32) : ((List.range 32).all fun b => chT a b) = true := by
  match a, ha with
  | 0, _ => exact tt_0
  | 1, _ => exact tt_1
  | 2, _ => exact tt_2
  | 3, _ => exact tt_3
  | 4, _ => exact tt_4
  | 5, _ => exact tt_5
  | 6, _ => exact tt_6
  | 7, _ => exact tt_7
  | 8, _ => exact tt_8
  | 9, _ => exact tt_9
  | 10, _ => exact tt_10
  | 11, _ => exact tt_11
  | 12, _ => exact tt_12
  | 13, _ => exact tt_13
  | 14, _ => exact tt_14
  | 15, _ => exact tt_15
  | 16, _ => exact tt_16
  | 17, _ => exact tt_17
  | 18, _ => exact tt_18
  | 19, _ => exact tt_19
  | 20, _ => exact tt_20
  | 21, _ => exact tt_21
  | 22, _ => exact tt_22
  | 23, _ => exact tt_23
  | 24, _ => exact tt_24
  | 25, _ => exact tt_25
  | 26, _ => exact tt_26
  | 27, _ => exact tt_27
  | 28, _ => exact tt_28
  | 29, _ => exact tt_29
  | 30, _ => exact tt_30
  | 31, _ => exact tt_31
  | n + 32, h => exact absurd h (by omega)
theorem plus_ok (a b : Nat) (ha : a < 32) (hb : b < 32) : ∃ x : Int, f_plus [.int a, .int b] = .ok (.int x) [.int a, .int b] ∧ f__law_xor [.int a, .int b] = .ok (.int x) [.int a, .int b] := by
  have h := List.all_eq_true.mp (pp_all a ha) b (List.mem_range.mpr hb)
  unfold chP at h
  split at h
  · rename_i x p q y p' q' e1 e2
    simp only [Bool.and_eq_true, decide_eq_true_eq] at h
    obtain ⟨⟨⟨⟨rfl, rfl⟩, rfl⟩, rfl⟩, rfl⟩ := h
    exact ⟨x, e1, e2⟩
  · cases h
theorem times_ok (a b : Nat) (ha : a < 32) (hb : b < 32) : ∃ x : Int, f_times [.int a, .int b] = .ok (.int x) [.int a, .int b] ∧ f__law_mul [.int a, .int b] = .ok (.int x) [.int a, .int b] := by
  have h := List.all_eq_true.mp (tt_all a ha) b (List.mem_range.mpr hb)
  unfold chT at h
  split at h
  · rename_i x p q y p' q' e1 e2
    simp only [Bool.and_eq_true, decide_eq_true_eq] at h
    obtain ⟨⟨⟨⟨rfl, rfl⟩, rfl⟩, rfl⟩, rfl⟩ := h
    exact ⟨x, e1, e2⟩
  · cases h
end Rf
namespace Rf
open PySem L2
theorem pa (p : D) (h : PoolD p) : isAbs p = false := by obtain ⟨o, xs, i, v, c, s, rfl, _⟩ := h; rfl
theorem same_int (x : Int) : f__law_same 12 [.int x, .int x] = .ok (.bl true) [.int x, .int x] := by
  rw [same_ok 12 _ _ (by rfl) (by rfl) (by simp [dep])]
  simp [same]
abbrev st1 (p t a b : D) (sc : D) : M := S_law.m { v_pool := p, v_turn := t, v_a := a, v_b := b } sc
theorem turn_ok (p : D) (hp : PoolD p) (t a b sc : D) : ∃ p' a' b', PoolD p' ∧ l_law_1 (st1 p t a b sc) = .ok .nx (st1 p' t a' b' sc) := by
  obtain ⟨r1, p1, hr1, hp1, e1⟩ := draw_ok p hp 32 (by decide) (by decide)
  obtain ⟨x, hx, ex⟩ : ∃ x : Nat, x < 32 ∧ r1 = x := ⟨r1.toNat, by omega, by omega⟩
  subst ex
  obtain ⟨r2, p2, hr2, hp2, e2⟩ := draw_ok p1 hp1 32 (by decide) (by decide)
  obtain ⟨y, hy, ey⟩ : ∃ x : Nat, x < 32 ∧ r2 = x := ⟨r2.toNat, by omega, by omega⟩
  subst ey
  obtain ⟨r3, p3, hr3, hp3, e3⟩ := draw_ok p2 hp2 9 (by decide) (by decide)
  have d1 : (dAsg (gNm 3) (dCall f__law_draw [.l 1, .v (dS (sC (.int 32)))])) (st1 p t a b sc) = .ok .nx (st1 p1 t (.int x) b sc) := by
    simp [S_law.m, e1, pa p hp]
  have z4 : 4 ≤ sizeLine := by rw [sizeLine_eq]; decide
  obtain ⟨k, hk, ek⟩ : ∃ k : Nat, k < 4 ∧ (if r3 / 2 < 3 then r3 / 2 else 3) = (k : Int) := by
    refine ⟨(if r3 / 2 < 3 then r3 / 2 else 3).toNat, ?_, ?_⟩ <;> split <;> omega
  obtain ⟨z, hz, d2⟩ : ∃ z : Nat, z < 32 ∧ (dAsg (gNm 4) (dBin oIx (dSq .lst (dA (dCall f__law_draw [.l 1, .v (dS (sC (.int 32)))]) (dA (dS (sLd 3 [])) (dA (dS (sC (.int 0))) (dA (dS (sC (.int 1))) dA0))))) (dB bMin2 (dA (dS (sC (.int 3))) (dA (dBin oDiv (dCall f__law_draw [.l 1, .v (dS (sC (.int 9)))]) (dS (sC (.int 2)))) dA0))))) (st1 p1 t (.int x) b sc) = .ok .nx (st1 p3 t (.int x) (.int z) sc) := by
    have e2' := e2
    have bm : bMin2 [.int 3, .int (r3 / 2)] = some (.int k) := by
      rw [bMin2_i, ek]
    have : k = 0 ∨ k = 1 ∨ k = 2 ∨ k = 3 := by omega
    have key : ∀ z : Nat, oIx (.obj .own .lst [.int y, .int x, .int 0, .int 1]) (.int k) = some (.int z) → (dAsg (gNm 4) (dBin oIx (dSq .lst (dA (dCall f__law_draw [.l 1, .v (dS (sC (.int 32)))]) (dA (dS (sLd 3 [])) (dA (dS (sC (.int 0))) (dA (dS (sC (.int 1))) dA0))))) (dB bMin2 (dA (dS (sC (.int 3))) (dA (dBin oDiv (dCall f__law_draw [.l 1, .v (dS (sC (.int 9)))]) (dS (sC (.int 2)))) dA0))))) (st1 p1 t (.int x) b sc) = .ok .nx (st1 p3 t (.int x) (.int z) sc) := by
      intro z hz
      simp [-bMin2_i, -oIx_l, S_law.m, e2, e3, pa p1 hp1, pa p2 hp2, z4, bm, hz]
    rcases this with rfl | rfl | rfl | rfl
    · exact ⟨y, hy, key y rfl⟩
    · exact ⟨x, hx, key x rfl⟩
    · exact ⟨0, by decide, key 0 rfl⟩
    · exact ⟨1, by decide, key 1 rfl⟩
  obtain ⟨u, pu1, pu2⟩ := plus_ok x z hx hz
  obtain ⟨v, tv1, tv2⟩ := times_ok x z hx hz
  refine ⟨p3, .int x, .int z, hp3, ?_⟩
  have d3 : (dOr (dNot (dT (dCall (f__law_same 12) [.v (dFz (dCall f_plus [.v (dS (sLd 3 [])), .v (dS (sLd 4 []))])), .v (dFz (dCall f__law_xor [.v (dS (sLd 3 [])), .v (dS (sLd 4 []))]))]))) (dNot (dT (dCall (f__law_same 12) [.v (dFz (dCall f_times [.v (dS (sLd 3 [])), .v (dS (sLd 4 []))])), .v (dFz (dCall f__law_mul [.v (dS (sLd 3 [])), .v (dS (sLd 4 []))]))])))) (st1 p3 t (.int x) (.int z) sc) = .ok false (st1 p3 t (.int x) (.int z) sc) := by
    have s1 := same_int u
    have s2 := same_int v
    simp [S_law.m, pu1, pu2, tv1, tv2, s1, s2]
  unfold l_law_1
  exact seq_nx d1 (seq_nx d2 (seq_nx (ifS_f d3 rfl) rfl))
theorem law_true (ns : List Int) (_ : ns.length ≤ 63) : ∃ as, f_law [scr ns] = .ok (.bl true) as := by
  obtain ⟨p, hp, e⟩ := pool_ok ns
  refine law_end rfl ?_
  have c1 : c_law_1 (m0 1 5 [scr ns]) = .ok .nx (st1 p .abs .abs .abs (scr ns)) := by
    unfold scr at *
    generalize ns.map D.int = xs at *
    simp [c_law_1, S_law.m, e]
  generalize scr ns = sc at *
  have hr := r1_nat 40 (by decide)
  obtain ⟨m', e2, p', t', a', b', hp', rfl⟩ := loopR_inv (g := gNm 2) (b := l_law_1) (lo := 0) (c := 1) (n := 40) (fun _ m => ∃ p t a b, PoolD p ∧ m = st1 p t a b sc) (by
    rintro i m hi ⟨p, t, a, b, hp, rfl⟩
    obtain ⟨p', a', b', hp', e⟩ := turn_ok p hp (.int (0 + (i : Int) * 1)) a b sc
    exact ⟨st1 p (.int (0 + (i : Int) * 1)) a b sc, _, rfl, e, p', .int (0 + (i : Int) * 1), a', b', hp', rfl⟩) (st1 p .abs .abs .abs sc) ⟨p, _, _, _, hp, rfl⟩
  have c2 : c_law_2 (st1 p .abs .abs .abs sc) = .ok .nx (st1 p' t' a' b' sc) := by
    unfold c_law_2
    refine (dFor_run (w := ⟨[], ilist 0 1 40⟩) (m1 := st1 p .abs .abs .abs sc) ?_).trans e2
    rfl
  exact ⟨_, seq_nx c1 (seq_nx c2 (seq_rt (ret_rt rfl)))⟩
end Rf
open PySem PySem.W PySem.Calls PyProof.Rows
theorem PySem.Challenge.cw_dapple_k01_sums_and_products_holds : PySem.Challenge.rw_dapple_k01_sums_and_products.Holds := by
  w_on; o_law
  refine HandSHeadRun.head_any (r := OpenLaw.row PySem.Challenge.rw_dapple_k01_sums_and_products) (q := view (OpenLaw.row PySem.Challenge.rw_dapple_k01_sums_and_products).prog [15])
    (H := Rf.hk) (ob := Rf.obT) (M := 4000) (loose := Rf.loose) (d := HandSHeadRun.topDef (OpenLaw.row PySem.Challenge.rw_dapple_k01_sums_and_products).prog 15)
    (kwd := []) Rf.obT_eq (by kernel_rfl) (fun s => by kernel_rfl) Rf.ran (by kernel_rfl)
    (by kernel_rfl) (by kernel_rfl) (by rfl) (by first | assumption | decide +kernel)
    (by decide +kernel) ⟨rfl, rfl, rfl, rfl, rfl, by decide +kernel⟩ ?hw ?hc
  case hw => w_witness2
  case hc =>
    refine Rf.walk_law (l := PySem.Challenge.rw_dapple_k01_sums_and_products) (n := 63) (k := 13) (x := "script") (cl := Rf.clOf) (xc := fun K => Rf.xcOf K Rf.exN []) (f := Rf.f_law)
      rfl (by decide) (by kernel_rfl) ⟨rfl, by decide, by decide⟩ Rf.law_true ?F
    intro w mg fa h Y G hmg0
    obtain ⟨K, KX, c, ck⟩ := Y
    have hmg : mg ("law" : PySem.Str) = some (.ref fa) := by
      have e : (HandSHeadRun.topDef (OpenLaw.row PySem.Challenge.rw_dapple_k01_sums_and_products).prog 15).name = ("law" : PySem.Str) := by kernel_rfl
      rw [← e]
      exact hmg0
    obtain ⟨fd, hb, hF⟩ := Rf.told (P := (PySem.Challenge.rw_dapple_k01_sums_and_products).prog) (w := w) KX G hmg c ck
    exact ⟨K, fd, KX, hb, hF⟩
