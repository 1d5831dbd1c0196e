import PyProof.Rows.All
import Wide.All
import OpenK.AllK
import Wide.FinOn
import HandS.ForMost
import HandS.ForExc
import HandS.IsInst
import HandS.CallSlots
import HandS.ExcOwn
import HandS.StrMore
import HandS.Flow
import HandS.Zip
import HandS.Iter
import HandS.Comp
import HandS.Words
import HandS.WordsExc
import HandS.ExcIs
import HandS.TupAny
import HandS.Text
import HandS.Style
import KE.LtSeq
import HandS.Deep
import HandS.Replace
import HandS.HeadHook1
import HandS.Head0
import HandS.Head1
import HandS.Head2
import HandS.HeadEnd
import HandS.Ends
import HandS.More
import HandS.Defaults
import HandS.TupSets
import KE.KeyNested
import KE.SortData
import HandS.Keys
import PySem.Challenge.RW_overlapladders_k02_whole_books
set_option Elab.async false
set_option linter.all false
set_option maxRecDepth 100001
set_option maxHeartbeats 9000001

/-! MiCore: deep values, owned lists, environments; what of them stands in the abstract heap. -/
namespace MI
open PySem L2

/-- a value with all that it holds; it is shared: nobody changes it any more -/
inductive D where
  | non | bl (b : Bool) | int (i : Int) | str (x : List Nat) | tup (ds : List D) | lst (ds : List D)
  /-- a list that may be known to the object alone (the script) -/
  | scr (ds : List D)
  /-- a class of the language; an object of which nothing is told -/
  | ty (n : String) | opq (a : Addr)
/-- what a name holds: a shared value, or a list of its own -/
inductive O where
  | s (d : D) | l (os : List O)
mutual
def frz : O → D
  | .s d => d
  | .l os => .lst (frzs os)
def frzs : List O → List D
  | [] => []
  | o :: os => frz o :: frzs os
end
abbrev Env := List (Option O)

inductive Rt where
  | sl (i : Nat) | tm (i : Nat) | far
/-- whose an object is: nobody's (shared), or a root's, at a path -/
abbrev TM := Addr → Option (Rt × List Nat)
def S (T : TM) (H : Hp) : Hp := fun a => if (T a).isSome then none else H a
theorem S_some {T : TM} {H : Hp} {a : Addr} {o : HO} : S T H a = some o ↔ T a = none ∧ H a = some o := by
  unfold S
  cases h : T a with
  | none => simp
  | some x => simp
def strV (x : List Nat) : V := .str ⟨x.toArray⟩
/-- texts are not too long, their signs are signs -/
def SOk (x : List Nat) : Prop := x.length ≤ 16777216 ∧ ∀ c ∈ x, c < 1114112

section
variable (K : PySem.W.Frag)
mutual
def RepD (H : Hp) : D → V → Prop
  | .non, v => v = .non
  | .bl b, v => v = .bl b
  | .int i, v => v = .int i
  | .str x, v => v = strV x ∧ SOk x
  | .tup ds, v => ∃ a vs, v = .ref a ∧ SqT K H a vs ∧ RepDs H ds vs
  | .lst ds, v => ∃ a vs, v = .ref a ∧ H a = some (.lst vs) ∧ RepDs H ds vs
  | .scr ds, v => ∃ a vs, v = .ref a ∧ SqL K H a vs ∧ RepDs H ds vs
  | .ty n, v => v = .ty n
  | .opq a, v => v = .ref a
def RepDs (H : Hp) : List D → List V → Prop
  | [], vs => vs = []
  | d :: ds, vs => ∃ v ws, vs = v :: ws ∧ RepD H d v ∧ RepDs H ds ws
end
mutual
def RepO (T : TM) (H : Hp) : O → Rt → List Nat → V → Prop
  | .s d, _, _, v => RepD K (S T H) d v
  | .l os, r, p, v => ∃ a vs, v = .ref a ∧ T a = some (r, p) ∧ H a = some (.lst vs) ∧ RepOs T H os r p 0 vs
def RepOs (T : TM) (H : Hp) : List O → Rt → List Nat → Nat → List V → Prop
  | [], _, _, _, vs => vs = []
  | o :: os, r, p, j, vs => ∃ v ws, vs = v :: ws ∧ RepO T H o r (p ++ [j]) v ∧ RepOs T H os r p (j + 1) ws
end
end

section
variable {K : PySem.W.Frag}
/-- all that stands stays -/
theorem SqL_mono {H H' : Hp} {a : Addr} {xs : List V} (g : ∀ b o, H b = some o → H' b = some o) (h : SqL K H a xs) : SqL K H' a xs := by
  rcases h with (h | ⟨o, h⟩) | h
  · exact .inl (.inl (g _ _ h))
  · exact .inl (.inr ⟨o, g _ _ h⟩)
  · exact .inr h
theorem SqT_mono {H H' : Hp} {a : Addr} {xs : List V} (g : ∀ b o, H b = some o → H' b = some o) (h : SqT K H a xs) : SqT K H' a xs := by
  rcases h with (h | ⟨o, h⟩) | h
  · exact .inl (.inl (g _ _ h))
  · exact .inl (.inr ⟨o, g _ _ h⟩)
  · exact .inr h
mutual
theorem RepD_mono {H H' : Hp} (g : ∀ b o, H b = some o → H' b = some o) : ∀ (d : D) (v : V), RepD K H d v → RepD K H' d v
  | .non, _, h => by simpa only [RepD] using h
  | .bl _, _, h => by simpa only [RepD] using h
  | .int _, _, h => by simpa only [RepD] using h
  | .str _, _, h => by simpa only [RepD] using h
  | .tup ds, _, h => by
    simp only [RepD] at h ⊢
    obtain ⟨a, vs, e, q, r⟩ := h
    exact ⟨a, vs, e, SqT_mono g q, RepDs_mono g ds vs r⟩
  | .lst ds, _, h => by
    simp only [RepD] at h ⊢
    obtain ⟨a, vs, e, q, r⟩ := h
    exact ⟨a, vs, e, g _ _ q, RepDs_mono g ds vs r⟩
  | .scr ds, _, h => by
    simp only [RepD] at h ⊢
    obtain ⟨a, vs, e, q, r⟩ := h
    exact ⟨a, vs, e, SqL_mono g q, RepDs_mono g ds vs r⟩
  | .ty _, _, h => by simpa only [RepD] using h
  | .opq _, _, h => by simpa only [RepD] using h
theorem RepDs_mono {H H' : Hp} (g : ∀ b o, H b = some o → H' b = some o) : ∀ (ds : List D) (vs : List V), RepDs K H ds vs → RepDs K H' ds vs
  | [], _, h => by simpa only [RepDs] using h
  | d :: ds, _, h => by
    simp only [RepDs] at h ⊢
    obtain ⟨v, ws, e, q, r⟩ := h
    exact ⟨v, ws, e, RepD_mono g d v q, RepDs_mono g ds ws r⟩
end
mutual
/-- tags and objects of the tree kept (at roots that f leads on) -/
theorem RepO_map {T T' : TM} {H H' : Hp} {r r' : Rt} (hs : ∀ b o, T b = none → H b = some o → T' b = none ∧ H' b = some o)
    (ht : ∀ b o p, T b = some (r, p) → H b = some o → T' b = some (r', p) ∧ H' b = some o) : ∀ (o : O) (p : List Nat) (v : V), RepO K T H o r p v → RepO K T' H' o r' p v
  | .s d, _, _, h => by
    simp only [RepO] at h ⊢
    exact RepD_mono (fun b o e => S_some.mpr (hs b o (S_some.mp e).1 (S_some.mp e).2)) d _ h
  | .l os, _, _, h => by
    simp only [RepO] at h ⊢
    obtain ⟨a, vs, e, t, q, z⟩ := h
    obtain ⟨t', q'⟩ := ht a _ _ t q
    exact ⟨a, vs, e, t', q', RepOs_map hs ht os _ _ _ z⟩
theorem RepOs_map {T T' : TM} {H H' : Hp} {r r' : Rt} (hs : ∀ b o, T b = none → H b = some o → T' b = none ∧ H' b = some o)
    (ht : ∀ b o p, T b = some (r, p) → H b = some o → T' b = some (r', p) ∧ H' b = some o) : ∀ (os : List O) (p : List Nat) (j : Nat) (vs : List V), RepOs K T H os r p j vs → RepOs K T' H' os r' p j vs
  | [], _, _, _, h => by simpa only [RepOs] using h
  | o :: os, _, _, _, h => by
    simp only [RepOs] at h ⊢
    obtain ⟨v, ws, e, q, z⟩ := h
    exact ⟨v, ws, e, RepO_map hs ht o _ _ q, RepOs_map hs ht os _ _ _ z⟩
end
mutual
/-- a tree is given up: all of it is shared from now on -/
theorem RepO_frz {T T' : TM} {H : Hp} {r : Rt} (hs : ∀ b, T b = none → T' b = none) (ht : ∀ b p, T b = some (r, p) → T' b = none) : ∀ (o : O) (p : List Nat) (v : V), RepO K T H o r p v → RepD K (S T' H) (frz o) v
  | .s d, _, _, h => by
    simp only [RepO] at h
    rw [frz]
    exact RepD_mono (fun b o e => S_some.mpr ⟨hs b (S_some.mp e).1, (S_some.mp e).2⟩) d _ h
  | .l os, _, _, h => by
    simp only [RepO] at h
    simp only [frz, RepD]
    obtain ⟨a, vs, e, t, q, z⟩ := h
    exact ⟨a, vs, e, S_some.mpr ⟨ht a _ t, q⟩, RepOs_frz hs ht os _ _ _ z⟩
theorem RepOs_frz {T T' : TM} {H : Hp} {r : Rt} (hs : ∀ b, T b = none → T' b = none) (ht : ∀ b p, T b = some (r, p) → T' b = none) : ∀ (os : List O) (p : List Nat) (j : Nat) (vs : List V), RepOs K T H os r p j vs → RepDs K (S T' H) (frzs os) vs
  | [], _, _, _, h => by
    simp only [RepOs] at h
    simpa only [frzs, RepDs] using h
  | o :: os, _, _, _, h => by
    simp only [RepOs] at h
    simp only [frzs, RepDs]
    obtain ⟨v, ws, e, q, z⟩ := h
    exact ⟨v, ws, e, RepO_frz hs ht o _ _ q, RepOs_frz hs ht os _ _ _ z⟩
end
mutual
/-- looked at: in the whole heap -/
theorem RepO_view {T : TM} {H : Hp} {r : Rt} : ∀ (o : O) (p : List Nat) (v : V), RepO K T H o r p v → RepD K H (frz o) v
  | .s d, _, _, h => by
    simp only [RepO] at h
    rw [frz]
    exact RepD_mono (fun b o e => (S_some.mp e).2) d _ h
  | .l os, _, _, h => by
    simp only [RepO] at h
    simp only [frz, RepD]
    obtain ⟨a, vs, e, t, q, z⟩ := h
    exact ⟨a, vs, e, q, RepOs_view os _ _ _ z⟩
theorem RepOs_view {T : TM} {H : Hp} {r : Rt} : ∀ (os : List O) (p : List Nat) (j : Nat) (vs : List V), RepOs K T H os r p j vs → RepDs K H (frzs os) vs
  | [], _, _, _, h => by
    simp only [RepOs] at h
    simpa only [frzs, RepDs] using h
  | o :: os, _, _, _, h => by
    simp only [RepOs] at h
    simp only [frzs, RepDs]
    obtain ⟨v, ws, e, q, z⟩ := h
    exact ⟨v, ws, e, RepO_view o _ _ q, RepOs_view os _ _ _ z⟩
end
theorem RepDs_len {H : Hp} : ∀ {ds : List D} {vs : List V}, RepDs K H ds vs → vs.length = ds.length
  | [], _, h => by simp only [RepDs] at h; rw [h]; rfl
  | d :: ds, _, h => by
    simp only [RepDs] at h
    obtain ⟨v, ws, rfl, _, r⟩ := h
    simp [RepDs_len r]
theorem RepDs_get {H : Hp} : ∀ {ds : List D} {vs : List V} {i : Nat} {d : D}, RepDs K H ds vs → ds[i]? = some d → ∃ v, vs[i]? = some v ∧ RepD K H d v
  | [], _, _, _, _, e => by simp at e
  | d :: ds, _, 0, _, h, e => by
    simp only [RepDs] at h
    obtain ⟨v, ws, rfl, q, _⟩ := h
    simp at e; subst e
    exact ⟨v, rfl, q⟩
  | d :: ds, _, i + 1, _, h, e => by
    simp only [RepDs] at h
    obtain ⟨v, ws, rfl, _, r⟩ := h
    simpa using RepDs_get r (by simpa using e)
theorem RepDs_get' {H : Hp} : ∀ {ds : List D} {vs : List V} {i : Nat} {v : V}, RepDs K H ds vs → vs[i]? = some v → ∃ d, ds[i]? = some d ∧ RepD K H d v
  | [], _, _, _, h, e => by simp only [RepDs] at h; subst h; simp at e
  | d :: ds, _, 0, _, h, e => by
    simp only [RepDs] at h
    obtain ⟨v, ws, rfl, q, _⟩ := h
    simp at e; subst e
    exact ⟨d, rfl, q⟩
  | d :: ds, _, i + 1, _, h, e => by
    simp only [RepDs] at h
    obtain ⟨v, ws, rfl, _, r⟩ := h
    simpa using RepDs_get' r (by simpa using e)
theorem RepDs_app {H : Hp} : ∀ {ds es : List D} {vs us : List V}, RepDs K H ds vs → RepDs K H es us → RepDs K H (ds ++ es) (vs ++ us)
  | [], _, _, _, h, g => by simp only [RepDs] at h; subst h; exact g
  | d :: ds, _, _, _, h, g => by
    simp only [RepDs] at h
    obtain ⟨v, ws, rfl, q, r⟩ := h
    simp only [List.cons_append, RepDs]
    exact ⟨v, _, rfl, q, RepDs_app r g⟩
theorem RepDs_take {H : Hp} : ∀ {ds : List D} {vs : List V} (n : Nat), RepDs K H ds vs → RepDs K H (ds.take n) (vs.take n)
  | _, _, 0, _ => by simp [RepDs]
  | [], _, n + 1, h => by simp only [RepDs] at h; subst h; simp [RepDs]
  | d :: ds, _, n + 1, h => by
    simp only [RepDs] at h
    obtain ⟨v, ws, rfl, q, r⟩ := h
    simp only [List.take_succ_cons, RepDs]
    exact ⟨v, _, rfl, q, RepDs_take n r⟩
theorem RepDs_drop {H : Hp} : ∀ {ds : List D} {vs : List V} (n : Nat), RepDs K H ds vs → RepDs K H (ds.drop n) (vs.drop n)
  | _, _, 0, h => by simpa using h
  | [], _, n + 1, h => by simp only [RepDs] at h; subst h; simp [RepDs]
  | d :: ds, _, n + 1, h => by
    simp only [RepDs] at h
    obtain ⟨v, ws, rfl, q, r⟩ := h
    simpa using RepDs_drop n r
end

/-! ### environments and frames -/
section
variable (K : PySem.W.Frag)
structure EI (T : TM) (H : Hp) (env : Env) (σ : St) : Prop where
  len : env.length = σ.length
  at_ : ∀ i o, env[i]? = some (some o) → ∃ v, σ[i]? = some (some v) ∧ RepO K T H o (.sl i) [] v
end
/-- whose objects stay as they are -/
def Kept (r : Option (Rt × List Nat)) : Prop := r = none ∨ (∃ p, r = some (.far, p)) ∨ ∃ i p, r = some (.tm i, p)
structure Fr (T T' : TM) (H H' : Hp) : Prop where
  keep : ∀ b o, H b = some o → Kept (T b) → H' b = some o ∧ T' b = T b
  far : ∀ b p, T' b = some (.far, p) → T b = some (.far, p)
/-- no temporary root from t on -/
def Lt (t : Nat) (T : TM) : Prop := ∀ b i p, T b = some (.tm i, p) → i < t
theorem Lt.mono {t u : Nat} {T : TM} (h : Lt t T) (l : t ≤ u) : Lt u T := fun b i p e => Nat.lt_of_lt_of_le (h b i p e) l
theorem Fr.refl {T : TM} {H : Hp} : Fr T T H H := ⟨fun _ _ e _ => ⟨e, rfl⟩, fun _ _ e => e⟩
theorem Fr.trans {T T1 T2 : TM} {H H1 H2 : Hp} (a : Fr T T1 H H1) (b : Fr T1 T2 H1 H2) : Fr T T2 H H2 :=
  ⟨fun c o e k => by
    obtain ⟨e1, t1⟩ := a.keep c o e k
    obtain ⟨e2, t2⟩ := b.keep c o e1 (by rw [t1]; exact k)
    exact ⟨e2, t2.trans t1⟩, fun c p e => a.far c p (b.far c p e)⟩
theorem Fr.sh {T T' : TM} {H H' : Hp} (f : Fr T T' H H') {b : Addr} {o : HO} (h : S T H b = some o) : S T' H' b = some o := by
  obtain ⟨t, e⟩ := S_some.mp h
  obtain ⟨e', t'⟩ := f.keep b o e (.inl t)
  exact S_some.mpr ⟨t'.trans t, e'⟩
theorem Fr.d {K : PySem.W.Frag} {T T' : TM} {H H' : Hp} (f : Fr T T' H H') {d : D} {v : V} (h : RepD K (S T H) d v) : RepD K (S T' H') d v := RepD_mono (fun _ _ e => f.sh e) d v h
theorem Fr.ds {K : PySem.W.Frag} {T T' : TM} {H H' : Hp} (f : Fr T T' H H') {d : List D} {v : List V} (h : RepDs K (S T H) d v) : RepDs K (S T' H') d v := RepDs_mono (fun _ _ e => f.sh e) d v h

/-- all that is tracked stays, whose it is too -/
structure Gr (T T' : TM) (H H' : Hp) : Prop where
  keep : ∀ b o, H b = some o → H' b = some o ∧ T' b = T b
  far : ∀ b p, T' b = some (.far, p) → T b = some (.far, p)
theorem Gr.fr {T T' : TM} {H H' : Hp} (g : Gr T T' H H') : Fr T T' H H' := ⟨fun b o e _ => g.keep b o e, g.far⟩
theorem Gr.refl {T : TM} {H : Hp} : Gr T T H H := ⟨fun _ _ e => ⟨e, rfl⟩, fun _ _ e => e⟩
theorem Gr.o {K : PySem.W.Frag} {T T' : TM} {H H' : Hp} (g : Gr T T' H H') {o : O} {r : Rt} {p : List Nat} {v : V} (h : RepO K T H o r p v) : RepO K T' H' o r p v :=
  RepO_map (fun b o t e => ⟨(g.keep b o e).2.trans t, (g.keep b o e).1⟩) (fun b o p t e => ⟨(g.keep b o e).2.trans t, (g.keep b o e).1⟩) o p v h
theorem Gr.ei {K : PySem.W.Frag} {T T' : TM} {H H' : Hp} (g : Gr T T' H H') {env : Env} {σ : St} (h : EI K T H env σ) : EI K T' H' env σ :=
  ⟨h.len, fun i o e => by
    obtain ⟨v, e1, r⟩ := h.at_ i o e
    exact ⟨v, e1, g.o r⟩⟩
/-- a new object at p, whose root is x -/
def put (T : TM) (p : Addr) (x : Option (Rt × List Nat)) : TM := fun b => if b = p then x else T b
theorem put_same {T : TM} {p : Addr} {x : Option (Rt × List Nat)} : put T p x p = x := by unfold put; rw [if_pos rfl]
theorem put_ne {T : TM} {p b : Addr} {x : Option (Rt × List Nat)} (h : b ≠ p) : put T p x b = T b := by unfold put; rw [if_neg h]
theorem Gr.new {T : TM} {H : Hp} {p : Addr} {o : HO} {x : Option (Rt × List Nat)} (h : H p = none) (hx : ∀ q, x ≠ some (.far, q)) : Gr T (put T p x) H (upd H p o) :=
  ⟨fun b u e => by
    have nb : b ≠ p := ne_of_none e h
    exact ⟨by rw [upd_ne nb]; exact e, put_ne nb⟩, fun b q e => by
    by_cases hb : b = p
    · subst hb; rw [put_same] at e; exact absurd e (hx q)
    · rw [put_ne hb] at e; exact e⟩
theorem Lt.put {t : Nat} {T : TM} (h : Lt t T) {p : Addr} {x : Option (Rt × List Nat)} (hx : ∀ i q, x = some (.tm i, q) → i < t) : Lt t (put T p x) := fun b i q e => by
  by_cases hb : b = p
  · subst hb; rw [put_same] at e; exact hx i q e
  · rw [put_ne hb] at e; exact h b i q e

/-- root r is given up -/
def untag (r : Rt → Bool) (T : TM) : TM := fun b => match T b with
  | some (q, p) => if r q then none else some (q, p)
  | none => none
theorem untag_none {r : Rt → Bool} {T : TM} {b : Addr} (h : T b = none) : untag r T b = none := by unfold untag; rw [h]
theorem untag_hit {r : Rt → Bool} {T : TM} {b : Addr} {q : Rt} {p : List Nat} (h : T b = some (q, p)) (hr : r q = true) : untag r T b = none := by unfold untag; rw [h]; simp [hr]
theorem untag_miss {r : Rt → Bool} {T : TM} {b : Addr} {q : Rt} {p : List Nat} (h : T b = some (q, p)) (hr : r q = false) : untag r T b = some (q, p) := by unfold untag; rw [h]; simp [hr]
theorem untag_some {r : Rt → Bool} {T : TM} {b : Addr} {q : Rt} {p : List Nat} (h : untag r T b = some (q, p)) : T b = some (q, p) ∧ r q = false := by
  unfold untag at h
  cases e : T b with
  | none => rw [e] at h; cases h
  | some x =>
    obtain ⟨q', p'⟩ := x
    rw [e] at h
    cases hr : r q' with
    | true => simp [hr] at h
    | false => simp [hr] at h; obtain ⟨rfl, rfl⟩ := h; exact ⟨rfl, hr⟩
def isTm (t : Nat) : Rt → Bool | .tm i => i == t | _ => false
def isSl (t : Nat) : Rt → Bool | .sl i => i == t | _ => false
theorem ei_untag {K : PySem.W.Frag} {T : TM} {H : Hp} {env : Env} {σ : St} {r : Rt → Bool} (h : EI K T H env σ) (hr : ∀ i, i < env.length → (∃ o, env[i]? = some (some o)) → r (.sl i) = false) : EI K (untag r T) H env σ :=
  ⟨h.len, fun i o e => by
    obtain ⟨v, e1, q⟩ := h.at_ i o e
    have hi := hr i ((List.getElem?_eq_some_iff.mp e).1) ⟨o, e⟩
    exact ⟨v, e1, RepO_map (fun b o t e => ⟨untag_none t, e⟩) (fun b o p t e => ⟨untag_miss t hi, e⟩) o [] v q⟩⟩
/-- a temporary is given up -/
theorem untag_tm {K : PySem.W.Frag} {T : TM} {H : Hp} {env : Env} {σ : St} {t : Nat} (h : EI K T H env σ) : EI K (untag (isTm t) T) H env σ := ei_untag h fun _ _ _ => rfl
theorem lt_untag {T : TM} {t : Nat} (h : Lt (t + 1) T) : Lt t (untag (isTm t) T) := fun b i p e => by
  obtain ⟨e1, e2⟩ := untag_some e
  have := h b i p e1
  have : i ≠ t := by intro z; subst z; simp [isTm] at e2
  omega
theorem fr_untag {T T' : TM} {H H' : Hp} {t : Nat} (f : Fr T T' H H') (l : Lt t T) : Fr T (untag (isTm t) T') H H' :=
  ⟨fun b o e k => by
    obtain ⟨e1, t1⟩ := f.keep b o e k
    refine ⟨e1, ?_⟩
    rcases k with k | ⟨p, k⟩ | ⟨i, p, k⟩
    · rw [k] at t1; rw [untag_none t1, k]
    · rw [k] at t1; rw [untag_miss t1 rfl, k]
    · rw [k] at t1
      have := l b i p k
      rw [untag_miss t1 (by simp [isTm]; omega), k], fun b p e => f.far b p (untag_some e).1⟩
theorem d_untag {K : PySem.W.Frag} {T : TM} {H : Hp} {r : Rt → Bool} {d : D} {v : V} (h : RepD K (S T H) d v) : RepD K (S (untag r T) H) d v :=
  RepD_mono (fun b o e => S_some.mpr ⟨untag_none (S_some.mp e).1, (S_some.mp e).2⟩) d v h
theorem ds_untag {K : PySem.W.Frag} {T : TM} {H : Hp} {r : Rt → Bool} {d : List D} {v : List V} (h : RepDs K (S T H) d v) : RepDs K (S (untag r T) H) d v :=
  RepDs_mono (fun b o e => S_some.mpr ⟨untag_none (S_some.mp e).1, (S_some.mp e).2⟩) d v h
/-- a temporary frozen -/
theorem tm_frz {K : PySem.W.Frag} {T : TM} {H : Hp} {t : Nat} {o : O} {v : V} (h : RepO K T H o (.tm t) [] v) : RepD K (S (untag (isTm t) T) H) (frz o) v :=
  RepO_frz (fun b e => untag_none e) (fun b p e => untag_hit e (by simp [isTm])) o [] v h
/-- a slot frozen -/
theorem sl_frz {K : PySem.W.Frag} {T : TM} {H : Hp} {env : Env} {σ : St} {i : Nat} {o : O} (I : EI K T H env σ) (e : env[i]? = some (some o)) :
    ∃ v, σ[i]? = some (some v) ∧ RepD K (S (untag (isSl i) T) H) (frz o) v ∧ EI K (untag (isSl i) T) H (env.set i (some (.s (frz o)))) σ := by
  obtain ⟨v, e1, r⟩ := I.at_ i o e
  have rd : RepD K (S (untag (isSl i) T) H) (frz o) v := RepO_frz (fun b e => untag_none e) (fun b p e => untag_hit e (by simp [isSl])) o [] v r
  refine ⟨v, e1, rd, by rw [List.length_set]; exact I.len, fun j u h => ?_⟩
  by_cases hj : i = j
  · subst hj
    rw [List.getElem?_set_self (List.getElem?_eq_some_iff.mp e).1] at h
    cases h
    exact ⟨v, e1, by simpa only [RepO] using rd⟩
  · rw [List.getElem?_set_ne hj] at h
    obtain ⟨w, e2, q⟩ := I.at_ j u h
    exact ⟨w, e2, RepO_map (fun b o t e => ⟨untag_none t, e⟩) (fun b o p t e => ⟨untag_miss t (by simp [isSl]; omega), e⟩) u [] w q⟩
theorem lt_untagS {T : TM} {r : Rt → Bool} {t : Nat} (h : Lt t T) : Lt t (untag r T) := fun b i p e => h b i p (untag_some e).1
theorem fr_untagS {T T' : TM} {H H' : Hp} {i : Nat} (f : Fr T T' H H') : Fr T (untag (isSl i) T') H H' :=
  ⟨fun b o e k => by
    obtain ⟨e1, t1⟩ := f.keep b o e k
    refine ⟨e1, ?_⟩
    rcases k with k | ⟨p, k⟩ | ⟨j, p, k⟩
    · rw [k] at t1; rw [untag_none t1, k]
    · rw [k] at t1; rw [untag_miss t1 rfl, k]
    · rw [k] at t1; rw [untag_miss t1 rfl, k], fun b p e => f.far b p (untag_some e).1⟩
/-- a temporary becomes slot i's -/
def retag (t i : Nat) (T : TM) : TM := fun b => match T b with
  | some (.tm j, p) => if j = t then some (.sl i, p) else some (.tm j, p)
  | x => x
theorem retag_hit {t i : Nat} {T : TM} {b : Addr} {p : List Nat} (h : T b = some (.tm t, p)) : retag t i T b = some (.sl i, p) := by unfold retag; rw [h]; simp
theorem retag_none {t i : Nat} {T : TM} {b : Addr} (h : T b = none) : retag t i T b = none := by unfold retag; rw [h]
theorem retag_sl {t i j : Nat} {T : TM} {b : Addr} {p : List Nat} (h : T b = some (.sl j, p)) : retag t i T b = some (.sl j, p) := by unfold retag; rw [h]
theorem retag_far {t i : Nat} {T : TM} {b : Addr} {p : List Nat} (h : T b = some (.far, p)) : retag t i T b = some (.far, p) := by unfold retag; rw [h]
theorem retag_tm {t i j : Nat} {T : TM} {b : Addr} {p : List Nat} (h : T b = some (.tm j, p)) (hj : j ≠ t) : retag t i T b = some (.tm j, p) := by unfold retag; rw [h]; simp [hj]
theorem retag_inv_far {t i : Nat} {T : TM} {b : Addr} {p : List Nat} (h : retag t i T b = some (.far, p)) : T b = some (.far, p) := by
  unfold retag at h
  cases e : T b with
  | none => rw [e] at h; cases h
  | some x =>
    obtain ⟨q, p'⟩ := x
    rw [e] at h
    cases q with
    | sl j => cases h
    | far => exact h
    | tm j =>
      by_cases hj : j = t
      · simp [hj] at h
      · simp [hj] at h
theorem retag_inv_tm {t i j : Nat} {T : TM} {b : Addr} {p : List Nat} (h : retag t i T b = some (.tm j, p)) : T b = some (.tm j, p) ∧ j ≠ t := by
  unfold retag at h
  cases e : T b with
  | none => rw [e] at h; cases h
  | some x =>
    obtain ⟨q, p'⟩ := x
    rw [e] at h
    cases q with
    | sl j => cases h
    | far => cases h
    | tm k =>
      by_cases hk : k = t
      · simp [hk] at h
      · simp [hk] at h
        obtain ⟨rfl, rfl⟩ := h
        exact ⟨rfl, hk⟩
theorem S_retag {t i : Nat} {T : TM} {H : Hp} {b : Addr} {o : HO} (h : T b = none) (e : H b = some o) : retag t i T b = none ∧ H b = some o := ⟨retag_none h, e⟩
/-- x = e, e fresh -/
theorem ei_move {K : PySem.W.Frag} {T : TM} {H : Hp} {env : Env} {σ : St} {t i : Nat} {o : O} {v : V} (I : EI K T H env σ) (hi : i < env.length) (r : RepO K T H o (.tm t) [] v) : EI K (retag t i T) H (env.set i (some o)) (σ.set i (some v)) := by
  refine ⟨by rw [List.length_set, List.length_set]; exact I.len, fun j u h => ?_⟩
  by_cases hj : i = j
  · subst hj
    rw [List.getElem?_set_self hi] at h
    cases h
    exact ⟨v, List.getElem?_set_self (by rw [← I.len]; exact hi), RepO_map (fun b o t e => S_retag t e) (fun b o p t e => ⟨retag_hit t, e⟩) o [] v r⟩
  · rw [List.getElem?_set_ne hj] at h
    obtain ⟨w, e2, q⟩ := I.at_ j u h
    exact ⟨w, by rw [List.getElem?_set_ne hj]; exact e2, RepO_map (fun b o t e => S_retag t e) (fun b o p t e => ⟨retag_sl t, e⟩) u [] w q⟩
theorem lt_retag {T : TM} {t i : Nat} (h : Lt (t + 1) T) : Lt t (retag t i T) := fun b j p e => by
  obtain ⟨e1, e2⟩ := retag_inv_tm e
  have := h b j p e1
  omega
theorem fr_retag {T T' : TM} {H H' : Hp} {t i : Nat} (f : Fr T T' H H') (l : Lt t T) : Fr T (retag t i T') H H' :=
  ⟨fun b o e k => by
    obtain ⟨e1, t1⟩ := f.keep b o e k
    refine ⟨e1, ?_⟩
    rcases k with k | ⟨p, k⟩ | ⟨j, p, k⟩
    · rw [k] at t1; rw [retag_none t1, k]
    · rw [k] at t1; rw [retag_far t1, k]
    · rw [k] at t1
      have := l b j p k
      rw [retag_tm t1 (by omega), k], fun b p e => f.far b p (retag_inv_far e)⟩
/-- a shared value is stored -/
theorem ei_set {K : PySem.W.Frag} {T : TM} {H : Hp} {env : Env} {σ : St} {i : Nat} {d : D} {v : V} (I : EI K T H env σ) (hi : i < env.length) (r : RepD K (S T H) d v) : EI K T H (env.set i (some (.s d))) (σ.set i (some v)) := by
  refine ⟨by rw [List.length_set, List.length_set]; exact I.len, fun j u h => ?_⟩
  by_cases hj : i = j
  · subst hj
    rw [List.getElem?_set_self hi] at h
    cases h
    exact ⟨v, List.getElem?_set_self (by rw [← I.len]; exact hi), by simpa only [RepO] using r⟩
  · rw [List.getElem?_set_ne hj] at h
    obtain ⟨w, e2, q⟩ := I.at_ j u h
    exact ⟨w, by rw [List.getElem?_set_ne hj]; exact e2, q⟩
end MI
/-! MiEval: what expressions come to, as functions of environments; the judgements of the layer with them as readings. -/
namespace MI
open PySem L2

inductive Rs where
  | nm (i : Nat) | v (o : O)
inductive R (α : Type) where
  | ok (a : α) (e : Env) | ex (c : Nat) (e : Env) | stuck
abbrev EM (α : Type) := Env → R α
def ret {α : Type} (a : α) : EM α := fun e => .ok a e
def bd {α β : Type} (m : EM α) (f : α → EM β) : EM β := fun e => match m e with
  | .ok a e' => f a e'
  | .ex c e' => .ex c e'
  | .stuck => .stuck
def lift {α β : Type} (f : α → Option β) (a : α) : EM β := fun e => match f a with
  | some b => .ok b e
  | none => .stuck

section
variable (K : PySem.W.Frag) (cx : Nat → Addr) (W : WX) (σ : L2.St)
def Wk {α : Type} (T : TM) (H : Hp) (t : Nat) (m : R α) (k : α → Env → TM → Hp → Prop) : Prop :=
  match m with
  | .ok a e' => ∀ T' H', Fr T T' H H' → EI K T' H' e' σ → Lt (t + 1) T' → k a e' T' H'
  | .ex c e' => ∀ T' H', Fr T T' H H' → EI K T' H' e' σ → Lt (t + 1) T' → W (.ref (cx c)) none σ H'
  | .stuck => False
def RsRep (T : TM) (H : Hp) (t : Nat) : Rs → V → Prop
  | .nm i, v => σ[i]? = some (some v)
  | .v o, v => RepO K T H o (.tm t) [] v
def RsReps (T : TM) (H : Hp) (t : Nat) : List Rs → List V → Prop
  | [], vs => vs = []
  | r :: rs, vs => ∃ v ws, vs = v :: ws ∧ RsRep K σ T H t r v ∧ RsReps T H t rs ws
end
def tE (K : PySem.W.Frag) (cx : Nat → Addr) (W : WX) (m : EM Rs) : TE := fun σ H Q => ∃ T env t, EI K T H env σ ∧ Lt t T ∧ Wk K cx W σ T H t (m env) (fun r _ T' H' => ∀ v, RsRep K σ T' H' t r v → Q v H')
def tA (K : PySem.W.Frag) (cx : Nat → Addr) (W : WX) (m : EM (List Rs)) : TA := fun σ H Q => ∃ T env t, EI K T H env σ ∧ Lt t T ∧ Wk K cx W σ T H t (m env) (fun rs _ T' H' => ∀ vs, RsReps K σ T' H' t rs vs → Q vs H')
def tT (K : PySem.W.Frag) (cx : Nat → Addr) (W : WX) (m : EM Bool) : TT := fun σ H Q => ∃ T env t, EI K T H env σ ∧ Lt t T ∧ Wk K cx W σ T H t (m env) (fun b _ _ H' => Q b H')

def opnd : Rs → Rs
  | .nm i => .nm i
  | .v o => .v (.s (frz o))
def look (e : Env) : Rs → Option O
  | .nm i => (e[i]?).join
  | .v o => some o
def lookAll (e : Env) : List Rs → Option (List O)
  | [] => some []
  | r :: rs => match look e r, lookAll e rs with
    | some o, some os => some (o :: os)
    | _, _ => none

section
variable {K : PySem.W.Frag} {cx : Nat → Addr} {W : WX} {σ : L2.St} {α β : Type} {T T0 T1 T' : TM} {H H0 H1 H' : Hp} {t : Nat} {env e1 : Env}
theorem Wk.step {m : R α} {k : α → Env → TM → Hp → Prop} (h : Wk K cx W σ T H t m k) (f : Fr T T1 H H1) : Wk K cx W σ T1 H1 t m k := by
  cases m with
  | ok a e' => exact fun T' H' F I L => h T' H' (f.trans F) I L
  | ex c e' => exact fun T' H' F I L => h T' H' (f.trans F) I L
  | stuck => exact h
theorem Wk.bd {m : EM α} {f : α → EM β} {k : β → Env → TM → Hp → Prop} {k1 : α → Env → TM → Hp → Prop} (h : Wk K cx W σ T H t (bd m f env) k)
    (q : ∀ a e1 T1 H1, Fr T T1 H H1 → EI K T1 H1 e1 σ → Lt (t + 1) T1 → Wk K cx W σ T H t (f a e1) k → k1 a e1 T1 H1) : Wk K cx W σ T H t (m env) k1 := by
  unfold MI.bd at h
  cases e : m env with
  | ok a e' => rw [e] at h; exact fun T' H' F I L => q a e' T' H' F I L h
  | ex c e' => rw [e] at h; exact h
  | stuck => rw [e] at h; exact h
theorem Wk.mono {m : R α} {k k1 : α → Env → TM → Hp → Prop} (h : Wk K cx W σ T H t m k) (q : ∀ a e1 T1 H1, Fr T T1 H H1 → EI K T1 H1 e1 σ → Lt (t + 1) T1 → k a e1 T1 H1 → k1 a e1 T1 H1) : Wk K cx W σ T H t m k1 := by
  cases m with
  | ok a e' => exact fun T' H' F I L => q _ _ _ _ F I L (h T' H' F I L)
  | ex c e' => exact h
  | stuck => exact h
theorem Wk.use {a : α} {e1 : Env} {k : α → Env → TM → Hp → Prop} (h : Wk K cx W σ T H t (.ok a e1) k) (F : Fr T T1 H H1) (I : EI K T1 H1 e1 σ) (L : Lt (t + 1) T1) : k a e1 T1 H1 := h T1 H1 F I L
/-- behind an operand: its temporary is given up -/
theorem settle {r : Rs} {v : V} (L : Lt t T) (F : Fr T T1 H H1) (I1 : EI K T1 H1 e1 σ) (L1 : Lt (t + 1) T1) (h : RsRep K σ T1 H1 t r v) :
    Fr T (untag (isTm t) T1) H H1 ∧ EI K (untag (isTm t) T1) H1 e1 σ ∧ Lt t (untag (isTm t) T1) ∧ RsRep K σ (untag (isTm t) T1) H1 t (opnd r) v := by
  refine ⟨fr_untag F L, untag_tm I1, lt_untag L1, ?_⟩
  cases r with
  | nm i => exact h
  | v o => simpa only [opnd, RsRep, RepO] using tm_frz h
/-- behind a test, a statement's part: nothing is held -/
theorem clean (L : Lt t T) (F : Fr T T1 H H1) (I1 : EI K T1 H1 e1 σ) (L1 : Lt (t + 1) T1) : Fr T (untag (isTm t) T1) H H1 ∧ EI K (untag (isTm t) T1) H1 e1 σ ∧ Lt t (untag (isTm t) T1) :=
  ⟨fr_untag F L, untag_tm I1, lt_untag L1⟩
theorem held {r : Rs} {v : V} {t' : Nat} (h : RsRep K σ T H t (opnd r) v) (F : Fr T T1 H H1) : RsRep K σ T1 H1 t' (opnd r) v := by
  cases r with
  | nm i => exact h
  | v o =>
    simp only [opnd, RsRep, RepO] at h ⊢
    exact F.d h
theorem look_rep {r : Rs} {v : V} {o : O} (I : EI K T H env σ) (h : RsRep K σ T H t r v) (e : look env r = some o) : ∃ rt p, RepO K T H o rt p v := by
  cases r with
  | nm i =>
    simp only [look, Option.join_eq_some_iff] at e
    obtain ⟨w, e1, q⟩ := I.at_ i o e
    have h' : σ[i]? = some (some v) := h
    rw [h'] at e1
    cases e1
    exact ⟨_, _, q⟩
  | v u =>
    simp only [look, Option.some.injEq] at e
    subst e
    exact ⟨_, _, h⟩
end

/-! ### weaker readings -/
section
variable {X : Cx}
theorem PEimp {e : Expr} {t t' : TE} (h : PE X e t) (w : ∀ σ H Q, t' σ H Q → t σ H Q) : PE X e t' := ⟨fun pins s σ H Q I hw => h.run pins s σ H Q I (w σ H Q hw)⟩
theorem PTimp {e : Expr} {t t' : TT} (h : PT X e t) (w : ∀ σ H Q, t' σ H Q → t σ H Q) : PT X e t' := ⟨fun pins s σ H Q I hw => h.run pins s σ H Q I (w σ H Q hw)⟩
theorem PWimp {e : Expr} {t t' : TT} (h : PW X e t) (w : ∀ σ H Q, t' σ H Q → t σ H Q) : PW X e t' := ⟨fun wh pins s σ H Q I hw => h.run wh pins s σ H Q I (w σ H Q hw)⟩
theorem PAimp {e : List Expr} {t t' : TA} (h : PA X e t) (w : ∀ σ H Q, t' σ H Q → t σ H Q) : PA X e t' := ⟨fun pos pins s σ H Q I hw => h.run pos pins s σ H Q I (w σ H Q hw)⟩
theorem PSimp {e : Stmt} {t t' : TS} (h : PS X e t) (w : ∀ D σ H, t' D σ H → t D σ H) : PS X e t' := ⟨fun pins s σ H D I hw => h.run pins s σ H D I (w D σ H hw)⟩
theorem PSsimp {e : List Stmt} {t t' : TS} (h : PSs X e t) (w : ∀ D σ H, t' D σ H → t D σ H) : PSs X e t' := ⟨fun pins s σ H D I hw => h.run pins s σ H D I (w D σ H hw)⟩
theorem PKimp {e : List Keyword} {t t' : TA} (h : PK X e t) (w : ∀ σ H Q, t' σ H Q → t σ H Q) : PK X e t' := ⟨fun pos pins s σ H Q I hw => h.run pos pins s σ H Q I (w σ H Q hw)⟩

/-! ### names, constants -/
def eVar (i : Nat) : EM Rs := fun e => match (e[i]?).join with
  | some _ => .ok (.nm i) e
  | none => .stuck
def eD (d : D) : EM Rs := fun e => .ok (.v (.s d)) e
variable {cx : Nat → Addr} {W : WX}
theorem m_var (i : Nat) {x : Str} {pos : Pos} (hN : X.N[i]? = some x := by rfl) (hv : Vis X.env.scope x := by first | exact Or.inl rfl | exact Or.inr (Or.inl rfl) | exact Or.inr (Or.inr rfl)) (hd : (x == ("__debug__" : Str)) = false := by decide)
    (hcd : (x == ("__classdict__" : Str)) = false := by decide) : PE X (.Name x pos) (tE X.K cx W (eVar i)) := PEimp (pe_var hN hv hd hcd) fun σ H Q h => by
  obtain ⟨T, env, t, I, L, h⟩ := h
  unfold eVar at h
  cases e : (env[i]?).join with
  | none => rw [e] at h; exact h.elim
  | some o =>
    rw [e] at h
    obtain ⟨v, e1, _⟩ := I.at_ i o (by simpa only [Option.join_eq_some_iff] using e)
    exact ⟨v, e1, h T H Fr.refl I (L.mono (Nat.le_succ _)) v e1⟩
theorem con_go {d : D} {v : V} {σ : L2.St} {H : Hp} {Q : VK} (hd : ∀ H, RepD X.K H d v) (h : tE X.K cx W (eD d) σ H Q) : Q v H := by
  obtain ⟨T, env, t, I, L, h⟩ := h
  exact h T H Fr.refl I (L.mono (Nat.le_succ _)) v (by simpa only [RsRep, RepO] using hd _)
theorem m_int {i j pos} : PE X (.Constant (.int i) j pos) (tE X.K cx W (eD (.int i))) := PEimp pe_int fun _ _ _ h => con_go (fun _ => by simp only [RepD]) h
theorem m_bl {b j pos} : PE X (.Constant (.bool b) j pos) (tE X.K cx W (eD (.bl b))) := PEimp pe_bl fun _ _ _ h => con_go (fun _ => by simp only [RepD]) h
theorem m_non {j pos} : PE X (.Constant .none j pos) (tE X.K cx W (eD .non)) := PEimp pe_non fun _ _ _ h => con_go (fun _ => by simp only [RepD]) h
theorem m_str (x : List Nat) {y : Str} {j pos} (hy : y = ⟨x.toArray⟩ := by decide +kernel) (ho : (decide (x.length ≤ 16777216) && x.all (decide <| · < 1114112)) = true := by decide +kernel) : PE X (.Constant (.str y) j pos) (tE X.K cx W (eD (.str x))) := by
  subst hy
  refine PEimp pe_str fun _ _ _ h => con_go (fun _ => ?_) h
  simp only [Bool.and_eq_true, decide_eq_true_eq, List.all_eq_true] at ho
  simp only [RepD]
  exact ⟨rfl, ho⟩
/-- a constant of the module -/
theorem m_glob {x : Str} {v : V} {u : Value} {pos : Pos} (d : D) (hm : X.mg x = some u) (r : RelV v u) (hd : ∀ H, RepD X.K H d v) (hg : Gl X x := by rfl) (hdb : (x == ("__debug__" : Str)) = false := by decide) : PE X (.Name x pos) (tE X.K cx W (eD d)) :=
  PEimp (pe_glob hg hm r hdb) fun _ _ _ h => con_go hd h

/-! ### operators by values -/
def OpOk (K : PySem.W.Frag) (f : O → O → Option O) (r : R2) : Prop := ∀ (T : TM) (H : Hp) (t : Nat) (a b o : O) (v w : V) (Q : VK), Lt (t + 1) T → (∃ rt p, RepO K T H a rt p v) → (∃ rt p, RepO K T H b rt p w) → f a b = some o →
  (∀ u T' H', Gr T T' H H' → Lt (t + 1) T' → RepO K T' H' o (.tm t) [] u → Q u H') → r v w H Q
def OpOk1 (K : PySem.W.Frag) (f : O → Option O) (r : V → Hp → VK → Prop) : Prop := ∀ (T : TM) (H : Hp) (t : Nat) (a o : O) (v : V) (Q : VK), Lt (t + 1) T → (∃ rt p, RepO K T H a rt p v) → f a = some o →
  (∀ u T' H', Gr T T' H H' → Lt (t + 1) T' → RepO K T' H' o (.tm t) [] u → Q u H') → r v H Q
def Reps (K : PySem.W.Frag) (T : TM) (H : Hp) : List O → List V → Prop
  | [], vs => vs = []
  | o :: os, vs => ∃ v ws, vs = v :: ws ∧ (∃ rt p, RepO K T H o rt p v) ∧ Reps K T H os ws
def OpOkN (K : PySem.W.Frag) (f : List O → Option O) (r : List V → Hp → VK → Prop) : Prop := ∀ (T : TM) (H : Hp) (t : Nat) (as : List O) (o : O) (vs : List V) (Q : VK), Lt (t + 1) T → Reps K T H as vs → f as = some o →
  (∀ u T' H', Gr T T' H H' → Lt (t + 1) T' → RepO K T' H' o (.tm t) [] u → Q u H') → r vs H Q
def op2 (f : O → O → Option O) (a b : EM Rs) : EM Rs := bd a fun r1 => bd b fun r2 => fun e => match look e (opnd r1), look e r2 with
  | some o1, some o2 => match f o1 o2 with
    | some o => .ok (.v o) e
    | none => .stuck
  | _, _ => .stuck
def op1 (f : O → Option O) (a : EM Rs) : EM Rs := bd a fun r => fun e => match look e r with
  | some o1 => match f o1 with
    | some o => .ok (.v o) e
    | none => .stuck
  | none => .stuck
variable {a b e : Expr} {ma mb me : EM Rs} {pos : Pos} {f : O → O → Option O} {r : R2}
theorem op2_go (hf : OpOk X.K f r) {σ : L2.St} {H : Hp} {Q : VK} (h : tE X.K cx W (op2 f ma mb) σ H Q) : tOp r (tE X.K cx W ma) (tE X.K cx W mb) σ H Q := by
  obtain ⟨T, env, t, I, L, h⟩ := h
  refine ⟨T, env, t, I, L, h.bd fun r1 e1 T1 H1 F1 I1 L1 h1 v hv => ?_⟩
  obtain ⟨F1', I1', L1', hv'⟩ := settle L F1 I1 L1 hv
  refine ⟨_, e1, t, I1', L1', (h1.step F1').bd fun r2 e2 T2 H2 F2 I2 L2 h2 w hw => ?_⟩
  have hv2 := held (t' := t) hv' F2
  try dsimp only at h2
  split at h2
  · rename_i o1 o2 q1 q2
    split at h2
    · rename_i o q3
      refine hf T2 H2 t o1 o2 o v w Q L2 (look_rep I2 hv2 q1) (look_rep I2 hw q2) q3 fun u T' H' G L' ho => ?_
      exact h2 T' H' (F2.trans G.fr) (G.ei I2) L' u ho
    · exact h2.elim
  · exact h2.elim
theorem m_bin {op : Operator} (hf : OpOk X.K f r) (ho : OpR X (binaryOp op) r) (ha : PE X a (tE X.K cx W ma)) (hb : PE X b (tE X.K cx W mb)) : PE X (.BinOp a op b pos) (tE X.K cx W (op2 f ma mb)) :=
  PEimp (pe_op ho ha hb) fun _ _ _ h => op2_go hf h
theorem m_cmp {op : CmpOp} (hf : OpOk X.K f r) (ho : OpR X (compareOp op) r) (ha : PE X a (tE X.K cx W ma)) (hb : PE X b (tE X.K cx W mb)) (hm : behindInMarks op b = false := by first | exact nomark _ | rfl) : PE X (.Compare a [op] [b] pos) (tE X.K cx W (op2 f ma mb)) :=
  PEimp (pe_cmpR ho ha hb hm) fun _ _ _ h => op2_go hf h
theorem m_ix (hf : OpOk X.K f r) (ho : IxR X r) (ha : PE X a (tE X.K cx W ma)) (hb : PE X b (tE X.K cx W mb)) (hs : PlainIx b := by exact fun _ _ => rfl) : PE X (.Subscript a b pos) (tE X.K cx W (op2 f ma mb)) :=
  PEimp (pe_ix ho ha hb hs) fun _ _ _ h => op2_go hf h
theorem op1_go {g : O → Option O} {r : V → Hp → VK → Prop} (hf : OpOk1 X.K g r) {σ : L2.St} {H : Hp} {Q : VK} (h : tE X.K cx W (op1 g ma) σ H Q) : tUn r (tE X.K cx W ma) σ H Q := by
  obtain ⟨T, env, t, I, L, h⟩ := h
  refine ⟨T, env, t, I, L, h.bd fun r1 e1 T1 H1 F1 I1 L1 h1 v hv => ?_⟩
  try dsimp only at h1
  split at h1
  · rename_i o1 q1
    split at h1
    · rename_i o q3
      refine hf T1 H1 t o1 o v Q L1 (look_rep I1 hv q1) q3 fun u T' H' G L' ho => ?_
      exact h1 T' H' (F1.trans G.fr) (G.ei I1) L' u ho
    · exact h1.elim
  · exact h1.elim
theorem m_un {op : UnaryOp} {g : O → Option O} {r : V → Hp → VK → Prop} (hf : OpOk1 X.K g r) (ho : UnR X (unaryOp op) r) (ha : PE X a (tE X.K cx W ma)) : PE X (.UnaryOp op a pos) (tE X.K cx W (op1 g ma)) :=
  PEimp (pe_un ho ha) fun _ _ _ h => op1_go hf h

/-! ### argument lists -/
def evs : List (EM Rs) → EM (List Rs)
  | [] => ret []
  | m :: ms => bd m fun r => bd (evs ms) fun rs => ret (opnd r :: rs)
def Opn (rs : List Rs) : Prop := ∀ r ∈ rs, ∃ r0, r = opnd r0
theorem a_nil : PA X [] (tA X.K cx W (evs [])) := PAimp pa_nil fun σ H Q h => by
  obtain ⟨T, env, t, I, L, h⟩ := h
  exact h T H Fr.refl I (L.mono (Nat.le_succ _)) [] rfl
theorem a_cons {es : List Expr} {ms : List (EM Rs)} (ha : PE X e (tE X.K cx W me)) (hr : PA X es (tA X.K cx W (evs ms))) (hs : starEach (e :: es) X.env = (false, eval e X.env) :: starEach es X.env := by rfl) : PA X (e :: es) (tA X.K cx W (evs (me :: ms))) :=
  PAimp (pa_cons ha hr hs) fun σ H Q h => by
  obtain ⟨T, env, t, I, L, h⟩ := h
  refine ⟨T, env, t, I, L, h.bd fun r1 e1 T1 H1 F1 I1 L1 h1 v hv => ?_⟩
  obtain ⟨F1', I1', L1', hv'⟩ := settle L F1 I1 L1 hv
  refine ⟨_, e1, t, I1', L1', (h1.step F1').bd fun rs e2 T2 H2 F2 I2 L2 h2 vs hvs => ?_⟩
  exact h2.use F2 I2 L2 _ ⟨v, vs, rfl, held hv' F2, hvs⟩
theorem evs_opn : ∀ {ms : List (EM Rs)} {env e1 : Env} {rs : List Rs}, evs ms env = .ok rs e1 → Opn rs ∧ rs.length = ms.length
  | [], env, e1, rs, h => by
    simp only [evs, ret, R.ok.injEq] at h
    obtain ⟨rfl, _⟩ := h
    exact ⟨fun r hr => by simp at hr, rfl⟩
  | m :: ms, env, e1, rs, h => by
    simp only [evs, bd] at h
    split at h
    · rename_i r e2 q
      split at h
      · rename_i rs2 e3 q2
        simp only [ret, R.ok.injEq] at h
        obtain ⟨rfl, _⟩ := h
        obtain ⟨o, l⟩ := evs_opn q2
        refine ⟨fun x hx => ?_, by simp [l]⟩
        rcases List.mem_cons.mp hx with z | z
        · exact ⟨r, z⟩
        · exact o x z
      · cases h
      · cases h
    · cases h
    · cases h
theorem lookAll_rep {K : PySem.W.Frag} {T : TM} {H : Hp} {σ : L2.St} {t : Nat} {env : Env} (I : EI K T H env σ) : ∀ {rs : List Rs} {vs : List V} {os : List O}, RsReps K σ T H t rs vs → lookAll env rs = some os → Reps K T H os vs
  | [], vs, os, h, e => by
    simp only [lookAll, Option.some.injEq] at e
    subst e
    exact h
  | r :: rs, vs, os, h, e => by
    obtain ⟨v, ws, rfl, h1, h2⟩ := h
    simp only [lookAll] at e
    split at e
    · rename_i o os' q1 q2
      simp only [Option.some.injEq] at e
      subst e
      exact ⟨v, ws, rfl, look_rep I h1 q1, lookAll_rep I h2 q2⟩
    · cases e
def callB (f : List O → Option O) (ms : List (EM Rs)) : EM Rs := bd (evs ms) fun rs => fun e => match lookAll e rs with
  | some os => match f os with
    | some o => .ok (.v o) e
    | none => .stuck
  | none => .stuck
theorem callB_go {es : List Expr} {ms : List (EM Rs)} {f : List O → Option O} {r : List V → Hp → VK → Prop} (hf : OpOkN X.K f r) {σ : L2.St} {H : Hp} {Q : VK} (h : tE X.K cx W (callB f ms) σ H Q) : tCB r (tA X.K cx W (evs ms)) σ H Q := by
  obtain ⟨T, env, t, I, L, h⟩ := h
  refine ⟨T, env, t, I, L, h.bd fun rs e1 T1 H1 F1 I1 L1 h1 vs hvs => ?_⟩
  try dsimp only at h1
  split at h1
  · rename_i os q1
    split at h1
    · rename_i o q3
      refine hf T1 H1 t os o vs Q L1 (lookAll_rep I1 hvs q1) q3 fun u T' H' G L' ho => ?_
      exact h1 T' H' (F1.trans G.fr) (G.ei I1) L' u ho
    · exact h1.elim
  · exact h1.elim
/-- a built-in function -/
theorem m_cb {es : List Expr} {ms : List (EM Rs)} {f : List O → Option O} {r : List V → Hp → VK → Prop} {x : Str} {p : Pos} {id : String} (hf : OpOkN X.K f r) (hc : CallR X (.builtin id) r) (hm : X.mg x = none) (ha : PA X (e :: es) (tA X.K cx W (evs ms)))
    (hv : bootBuiltins x = some (.builtin id) := by decide +kernel) (hg : Gl X x := by rfl) (hn : x ≠ "__name__" := by decide) (hdb : (x == ("__debug__" : Str)) = false := by decide)
    (he : starEach (e :: es) X.env = (false, eval e X.env) :: starEach es X.env := by rfl) (hpl : (backTo pos (starEach es X.env)).any (·.1) = false := by rfl) : PE X (.Call (.Name x p) (e :: es) [] pos) (tE X.K cx W (callB f ms)) :=
  PEimp (pe_callB hc hg hm hv ha hn hdb he hpl) fun _ _ _ h => callB_go (es := es) hf h
/-- a built-in class -/
theorem m_ct {es : List Expr} {ms : List (EM Rs)} {f : List O → Option O} {r : List V → Hp → VK → Prop} {x : Str} {p : Pos} {id : String} (hf : OpOkN X.K f r) (hc : CallR X (.type id) r) (hm : X.mg x = none) (ha : PA X (e :: es) (tA X.K cx W (evs ms)))
    (hv : bootBuiltins x = some (.type id) := by decide +kernel) (hg : Gl X x := by rfl) (hn : x ≠ "__name__" := by decide) (hdb : (x == ("__debug__" : Str)) = false := by decide)
    (he : starEach (e :: es) X.env = (false, eval e X.env) :: starEach es X.env := by rfl) (hpl : (backTo pos (starEach es X.env)).any (·.1) = false := by rfl) : PE X (.Call (.Name x p) (e :: es) [] pos) (tE X.K cx W (callB f ms)) :=
  PEimp (pe_callTy hc hg hm hv ha hn hdb he hpl) fun _ _ _ h => callB_go (es := es) hf h

/-! ### given up: what is stored elsewhere -/
def gv : Rs → EM D
  | .nm i => fun e => match (e[i]?).join with
    | some o => .ok (frz o) (e.set i (some (.s (frz o))))
    | none => .stuck
  | .v o => fun e => .ok (frz o) e
def gvs : List Rs → EM (List D)
  | [] => ret []
  | r :: rs => bd (gv r) fun d => bd (gvs rs) fun ds => ret (d :: ds)
theorem gv_ok {K : PySem.W.Frag} {σ : L2.St} {T T1 : TM} {H H1 : Hp} {t : Nat} {e1 e2 : Env} {r : Rs} {v : V} {d : D} (L : Lt t T) (F : Fr T T1 H H1) (I1 : EI K T1 H1 e1 σ) (L1 : Lt (t + 1) T1) (h : RsRep K σ T1 H1 t r v) (e : gv r e1 = .ok d e2) :
    ∃ q, Fr T (untag q T1) H H1 ∧ EI K (untag q T1) H1 e2 σ ∧ Lt (t + 1) (untag q T1) ∧ RepD K (S (untag q T1) H1) d v := by
  cases r with
  | nm i =>
    simp only [gv] at e
    split at e
    · rename_i o q
      simp only [R.ok.injEq] at e
      obtain ⟨rfl, rfl⟩ := e
      obtain ⟨w, e3, rd, I2⟩ := sl_frz I1 (by simpa only [Option.join_eq_some_iff] using q)
      have h' : σ[i]? = some (some v) := h
      rw [h'] at e3
      cases e3
      exact ⟨isSl i, fr_untagS F, I2, lt_untagS L1, rd⟩
    · cases e
  | v o =>
    simp only [gv, R.ok.injEq] at e
    obtain ⟨rfl, rfl⟩ := e
    exact ⟨isTm t, fr_untag F L, untag_tm I1, lt_untagS L1, tm_frz h⟩
theorem opn_untag {K : PySem.W.Frag} {σ : L2.St} {T : TM} {H : Hp} {t : Nat} {q : Rt → Bool} {r : Rs} {v : V} (h : RsRep K σ T H t (opnd r) v) : RsRep K σ (untag q T) H t (opnd r) v := by
  cases r with
  | nm i => exact h
  | v o =>
    simp only [opnd, RsRep, RepO] at h ⊢
    exact d_untag h
theorem opns_untag {K : PySem.W.Frag} {σ : L2.St} {T : TM} {H : Hp} {t : Nat} {q : Rt → Bool} : ∀ {rs : List Rs} {vs : List V}, Opn rs → RsReps K σ T H t rs vs → RsReps K σ (untag q T) H t rs vs
  | [], _, _, h => h
  | r :: rs, _, op, h => by
    obtain ⟨v, ws, rfl, h1, h2⟩ := h
    obtain ⟨r0, e⟩ := op r List.mem_cons_self
    subst e
    exact ⟨v, ws, rfl, opn_untag h1, opns_untag (fun x hx => op x (List.mem_cons_of_mem _ hx)) h2⟩
theorem gvs_ok {K : PySem.W.Frag} {σ : L2.St} {T : TM} {H H1 : Hp} {t : Nat} (L : Lt t T) : ∀ {rs : List Rs} {vs : List V} {T1 : TM} {e1 e2 : Env} {ds : List D}, Opn rs → Fr T T1 H H1 → EI K T1 H1 e1 σ → Lt (t + 1) T1 → RsReps K σ T1 H1 t rs vs → gvs rs e1 = .ok ds e2 →
    ∃ T2, Fr T T2 H H1 ∧ EI K T2 H1 e2 σ ∧ Lt (t + 1) T2 ∧ RepDs K (S T2 H1) ds vs ∧ (∀ b, T1 b = none → T2 b = none)
  | [], vs, T1, e1, e2, ds, op, F, I, L1, h, e => by
    simp only [gvs, ret, R.ok.injEq] at e
    obtain ⟨rfl, rfl⟩ := e
    exact ⟨T1, F, I, L1, by simp only [RepDs]; exact h, fun _ z => z⟩
  | r :: rs, vs, T1, e1, e2, ds, op, F, I, L1, h, e => by
    obtain ⟨v, ws, rfl, h1, h2⟩ := h
    simp only [gvs, bd] at e
    split at e
    · rename_i d e3 q1
      split at e
      · rename_i ds2 e4 q2
        simp only [ret, R.ok.injEq] at e
        obtain ⟨rfl, rfl⟩ := e
        obtain ⟨q, F2, I2, L2, rd⟩ := gv_ok L F I L1 h1 q1
        have op2 : Opn rs := fun x hx => op x (List.mem_cons_of_mem _ hx)
        obtain ⟨T2, F3, I3, L3, rds, mono⟩ := gvs_ok L op2 F2 I2 L2 (opns_untag op2 h2) q2
        refine ⟨T2, F3, I3, L3, ?_, fun b z => mono b (untag_none z)⟩
        simp only [RepDs]
        exact ⟨v, ws, rfl, RepD_mono (fun b o e => S_some.mpr ⟨mono b (S_some.mp e).1, (S_some.mp e).2⟩) d v rd, rds⟩
      · cases e
      · cases e
    · cases e
    · cases e
theorem gv_noex {r : Rs} {e : Env} {c : Nat} {e2 : Env} : gv r e ≠ .ex c e2 := by
  cases r with
  | nm i => simp only [gv]; split <;> simp
  | v o => simp [gv]
theorem gvs_noex : ∀ {rs : List Rs} {e : Env} {c : Nat} {e2 : Env}, gvs rs e ≠ .ex c e2
  | [], e, c, e2 => by simp [gvs, ret]
  | r :: rs, e, c, e2 => by
    simp only [gvs, bd]
    split
    · split
      · simp [ret]
      · rename_i q; exact absurd q gvs_noex
      · simp
    · rename_i q; exact absurd q gv_noex
    · simp
theorem gvs_len : ∀ {rs : List Rs} {e e2 : Env} {ds : List D}, gvs rs e = .ok ds e2 → ds.length = rs.length
  | [], e, e2, ds, h => by
    simp only [gvs, ret, R.ok.injEq] at h
    rw [← h.1]; rfl
  | r :: rs, e, e2, ds, h => by
    simp only [gvs, bd] at h
    split at h
    · split at h
      · rename_i q2
        simp only [ret, R.ok.injEq] at h
        rw [← h.1]
        simp [gvs_len q2]
      · cases h
      · cases h
    · cases h
    · cases h
def eTup (ms : List (EM Rs)) : EM Rs := bd (evs ms) fun rs => bd (gvs rs) fun ds => ret (.v (.s (.tup ds)))
def eLst (ms : List (EM Rs)) : EM Rs := bd (evs ms) fun rs => bd (gvs rs) fun ds => ret (.v (.l (ds.map .s)))
theorem RepDs_os {K : PySem.W.Frag} {T : TM} {H : Hp} {r : Rt} : ∀ {ds : List D} {vs : List V} {p : List Nat} {j : Nat}, RepDs K (S T H) ds vs → RepOs K T H (ds.map .s) r p j vs
  | [], _, _, _, h => by simpa only [RepDs, List.map_nil, RepOs] using h
  | d :: ds, _, _, _, h => by
    simp only [RepDs] at h
    obtain ⟨v, ws, rfl, h1, h2⟩ := h
    simp only [List.map_cons, RepOs]
    exact ⟨v, ws, rfl, by simpa only [RepO] using h1, RepDs_os h2⟩
theorem disp_go {es : List Expr} {ms : List (EM Rs)} {σ : L2.St} {H : Hp} {Q : VK} {F : List D → Rs} (h : tE X.K cx W (bd (evs ms) fun rs => bd (gvs rs) fun ds => ret (F ds)) σ H Q) (k : List V → Hp → Prop)
    (hk : ∀ T1 H1 e1 t ds vs, EI X.K T1 H1 e1 σ → Lt (t + 1) T1 → ds.length = ms.length → RepDs X.K (S T1 H1) ds vs → (∀ u T' H', Gr T1 T' H1 H' → Lt (t + 1) T' → RsRep X.K σ T' H' t (F ds) u → Q u H') → k vs H1) : tA X.K cx W (evs ms) σ H k := by
  obtain ⟨T, env, t, I, L, h⟩ := h
  have op : ∀ rs e1, evs ms env = .ok rs e1 → Opn rs ∧ rs.length = ms.length := fun rs e1 q => evs_opn q
  unfold Wk MI.bd at h
  refine ⟨T, env, t, I, L, ?_⟩
  cases e : evs ms env with
  | stuck => rw [e] at h; exact h.elim
  | ex c e' => rw [e] at h; exact h
  | ok rs e1 =>
    rw [e] at h
    dsimp only at h
    obtain ⟨op1, ln⟩ := op rs e1 e
    intro T1 H1 F1 I1 L1 vs hvs
    cases e2 : gvs rs e1 with
    | stuck => rw [e2] at h; exact h.elim
    | ex c e' => exact absurd e2 gvs_noex
    | ok ds e3 =>
      rw [e2] at h
      obtain ⟨T2, F2, I2, L2, rds, _⟩ := gvs_ok L op1 F1 I1 L1 hvs e2
      refine hk T2 H1 e3 t ds vs I2 L2 ((gvs_len e2).trans ln) rds fun u T' H' G L' ru => ?_
      exact h T' H' (F2.trans G.fr) (G.ei I2) L' u ru
theorem m_tup {es : List Expr} {ms : List (EM Rs)} {x1} (ha : PA X es (tA X.K cx W (evs ms))) (hl : ms.length ≤ 1000 := by decide) : PE X (.Tuple es x1 pos) (tE X.K cx W (eTup ms)) := PEimp (pe_tup ha) fun σ H Q h => by
  refine disp_go (es := es) h _ fun T1 H1 e1 t ds vs I1 L1 ln rds q => ⟨?_, fun p hp => ?_⟩
  · rw [RepDs_len rds, ln]; exact Nat.le_trans hl (by decide)
  · refine q (.ref p) (put T1 p none) (upd H1 p (.tup vs)) (Gr.new hp (by simp)) (L1.put (by simp)) ?_
    simp only [RsRep, RepO, RepD]
    refine ⟨p, vs, rfl, .of (S_some.mpr ⟨put_same, upd_same⟩), RepDs_mono (fun b o e => ?_) ds vs rds⟩
    obtain ⟨e1, e2⟩ := S_some.mp e
    exact S_some.mpr ⟨by rw [put_ne (ne_of_none e2 hp)]; exact e1, by rw [upd_ne (ne_of_none e2 hp)]; exact e2⟩
theorem m_lst {es : List Expr} {ms : List (EM Rs)} (ha : PA X es (tA X.K cx W (evs ms))) (hl : ms.length ≤ 1000 := by decide) : PE X (.List es pos) (tE X.K cx W (eLst ms)) := PEimp (pe_lst ha) fun σ H Q h => by
  refine disp_go (es := es) h _ fun T1 H1 e1 t ds vs I1 L1 ln rds q => ⟨?_, fun p hp => ?_⟩
  · rw [RepDs_len rds, ln]; exact Nat.le_trans hl (by decide)
  · refine q (.ref p) (put T1 p (some (.tm t, []))) (upd H1 p (.lst vs)) (Gr.new hp (by simp)) (L1.put (by simp)) ?_
    simp only [RsRep, RepO]
    refine ⟨p, vs, rfl, put_same, upd_same, RepDs_os (RepDs_mono (fun b o e => ?_) ds vs rds)⟩
    obtain ⟨e1, e2⟩ := S_some.mp e
    exact S_some.mpr ⟨by rw [put_ne (ne_of_none e2 hp)]; exact e1, by rw [upd_ne (ne_of_none e2 hp)]; exact e2⟩
end
end MI
/-! MiEval2: truth, and, or, not, if; calls of the text's own functions. -/
namespace MI
open PySem L2

/-! ### truth -/
def truD : D → Option Bool
  | .non => some false
  | .bl b => some b
  | .int i => some (i != 0)
  | .str x => some (!x.isEmpty)
  | .tup ds => some (!ds.isEmpty)
  | .lst ds => some (!ds.isEmpty)
  | .scr ds => some (!ds.isEmpty)
  | _ => none
def truO : O → Option Bool
  | .s d => truD d
  | .l os => some (!os.isEmpty)
theorem RepDs_empty {K : PySem.W.Frag} {H : Hp} {ds : List D} {vs : List V} (h : RepDs K H ds vs) : ds.isEmpty = vs.isEmpty := by
  have := RepDs_len h
  cases ds <;> cases vs <;> simp at this ⊢
theorem RepOs_len {K : PySem.W.Frag} {T : TM} {H : Hp} {r : Rt} : ∀ {os : List O} {vs : List V} {p : List Nat} {j : Nat}, RepOs K T H os r p j vs → vs.length = os.length
  | [], _, _, _, h => by simp only [RepOs] at h; rw [h]; rfl
  | o :: os, _, _, _, h => by
    simp only [RepOs] at h
    obtain ⟨v, ws, rfl, _, r⟩ := h
    simp [RepOs_len r]
theorem len_line {n : Nat} (h : n ≤ 16777216) : n ≤ sizeLine := by rw [sizeLine_eq]; exact h
theorem strV_len {x : List Nat} : (⟨x.toArray⟩ : Str).length = x.length := by simp [Str.length]
theorem tru_D {K : PySem.W.Frag} {H : Hp} {d : D} {v : V} {b : Bool} (h : RepD K H d v) (e : truD d = some b) : TruV K v H b := by
  cases d with
  | non => simp only [truD, Option.some.injEq] at e; simp only [RepD] at h; subst e h; rfl
  | bl k => simp only [truD, Option.some.injEq] at e; simp only [RepD] at h; subst e h; rfl
  | int i => simp only [truD, Option.some.injEq] at e; simp only [RepD] at h; subst e h; rfl
  | str x =>
    simp only [truD, Option.some.injEq] at e; simp only [RepD] at h
    obtain ⟨rfl, ok⟩ := h
    refine ⟨by rw [strV_len]; exact len_line ok.1, ?_⟩
    rw [strV_len, ← e]
    cases x <;> simp
    omega
  | tup ds =>
    simp only [truD, Option.some.injEq] at e; simp only [RepD] at h
    obtain ⟨a, vs, rfl, q, r⟩ := h
    exact .inr (.inl ⟨vs, q, by rw [← e, RepDs_empty r]⟩)
  | lst ds =>
    simp only [truD, Option.some.injEq] at e; simp only [RepD] at h
    obtain ⟨a, vs, rfl, q, r⟩ := h
    exact .inl ⟨vs, .of q, by rw [← e, RepDs_empty r]⟩
  | scr ds =>
    simp only [truD, Option.some.injEq] at e; simp only [RepD] at h
    obtain ⟨a, vs, rfl, q, r⟩ := h
    exact .inl ⟨vs, q, by rw [← e, RepDs_empty r]⟩
  | ty n => cases e
  | opq a => cases e
theorem RepD_all {K : PySem.W.Frag} {T : TM} {H : Hp} {d : D} {v : V} (h : RepD K (S T H) d v) : RepD K H d v := RepD_mono (fun b o e => (S_some.mp e).2) d v h
theorem tru_O {K : PySem.W.Frag} {T : TM} {H : Hp} {o : O} {r : Rt} {p : List Nat} {v : V} {b : Bool} (h : RepO K T H o r p v) (e : truO o = some b) : TruV K v H b := by
  cases o with
  | s d => simp only [RepO] at h; exact tru_D (RepD_all h) e
  | l os =>
    simp only [truO, Option.some.injEq] at e; simp only [RepO] at h
    obtain ⟨a, vs, rfl, _, q, r⟩ := h
    refine .inl ⟨vs, .of q, ?_⟩
    rw [← e]
    have := RepOs_len r
    cases os <;> cases vs <;> simp at this ⊢

def tst (m : EM Rs) : EM Bool := bd m fun r => fun e => match look e r with
  | some o => match truO o with
    | some b => .ok b e
    | none => .stuck
  | none => .stuck
def vAnd (a b : EM Rs) : EM Rs := bd a fun r => fun e => match look e r with
  | some o => match truO o with
    | some k => if k then b e else .ok r e
    | none => .stuck
  | none => .stuck
def vOr (a b : EM Rs) : EM Rs := bd a fun r => fun e => match look e r with
  | some o => match truO o with
    | some k => if k then .ok r e else b e
    | none => .stuck
  | none => .stuck
def vNot (a : EM Rs) : EM Rs := bd (tst a) fun k => ret (.v (.s (.bl (!k))))
def bAnd (a b : EM Bool) : EM Bool := bd a fun k => if k then b else ret false
def bOr (a b : EM Bool) : EM Bool := bd a fun k => if k then ret true else b
def bNot (a : EM Bool) : EM Bool := bd a fun k => ret (!k)
def eIf (c : EM Bool) (a b : EM Rs) : EM Rs := bd c fun k => if k then a else b
/-- a comparison -/
def bB (g : O → O → Option Bool) : O → O → Option O := fun a b => match g a b with
  | some k => some (.s (.bl k))
  | none => none
section
variable {X : Cx} {cx : Nat → Addr} {W : WX} {a b e : Expr} {ma mb me : EM Rs} {ta tb : EM Bool} {pos : Pos} {rest : List Expr}
theorem tst_go {σ : L2.St} {H : Hp} {Q : Bool → Hp → Prop} (h : tT X.K cx W (tst ma) σ H Q) : (tE X.K cx W ma) σ H fun x H' => ∃ k, TruV X.K x H' k ∧ Q k H' := by
  obtain ⟨T, env, t, I, L, h⟩ := h
  refine ⟨T, env, t, I, L, h.bd fun r1 e1 T1 H1 F1 I1 L1 h1 v hv => ?_⟩
  try dsimp only at h1
  split at h1
  · rename_i o1 q1
    split at h1
    · rename_i k q3
      obtain ⟨rt, p, ro⟩ := look_rep I1 hv q1
      exact ⟨k, tru_O ro q3, h1.use F1 I1 L1⟩
    · exact h1.elim
  · exact h1.elim
/-- any expression whose test is its value's truth -/
theorem t_tst (ha : PE X a (tE X.K cx W ma)) (he : ∀ whole, isTrue a X.env whole = (do let v ← whole; standAt a.pos; holding [v] (truthy v)) := by intro _; rfl) : PT X a (tT X.K cx W (tst ma)) :=
  PTimp (pt_truth ha he) fun _ _ _ h => tst_go h
theorem t_cmp {op : CmpOp} {g : O → O → Option Bool} {r : R2} (hf : OpOk X.K (bB g) r) (ho : OpR X (compareOp op) r) (ha : PE X a (tE X.K cx W ma)) (hb : PE X b (tE X.K cx W mb)) (hm : behindInMarks op b = false := by first | exact nomark _ | rfl) :
    PT X (.Compare a [op] [b] pos) (tT X.K cx W (tst (op2 (bB g) ma mb))) := PTimp (pt_cmpR ho ha hb hm) fun σ H Q h => by
  obtain ⟨T, env, t, I, L, h⟩ := h
  refine op2_go (W := W) (cx := cx) hf ⟨T, env, t, I, L, ?_⟩
  have hk : ∀ o e', op2 (bB g) ma mb env = .ok o e' → ∃ k, o = .v (.s (.bl k)) := fun o e' q => by
    unfold op2 bd at q
    split at q
    · dsimp only at q
      split at q
      · try dsimp only at q
        split at q
        · unfold bB at q
          split at q
          · rename_i q2
            split at q2
            · cases q2
              cases q
              exact ⟨_, rfl⟩
            · cases q2
          · cases q
        · cases q
      · cases q
      · cases q
    · cases q
    · cases q
  unfold tst bd at h
  cases q : op2 (bB g) ma mb env with
  | stuck => rw [q] at h; exact h
  | ex c e' => rw [q] at h; exact h
  | ok o e' =>
    rw [q] at h
    obtain ⟨k, rfl⟩ := hk o e' q
    intro T' H' F I' L' v hv
    simp only [RsRep, RepO, RepD] at hv
    subst hv
    exact ⟨k, rfl, h.use F I' L'⟩
theorem m_and (ha : PE X a (tE X.K cx W ma)) (hb : PE X (.BoolOp .And (b :: rest) pos) (tE X.K cx W mb)) : PE X (.BoolOp .And (a :: b :: rest) pos) (tE X.K cx W (vAnd ma mb)) := PEimp (pe_andT ha hb) fun σ H Q h => by
  obtain ⟨T, env, t, I, L, h⟩ := h
  refine ⟨T, env, t, I, L, h.bd fun r1 e1 T1 H1 F1 I1 L1 h1 v hv => ?_⟩
  try dsimp only at h1
  split at h1
  · rename_i o1 q1
    split at h1
    · rename_i k q3
      obtain ⟨rt, p, ro⟩ := look_rep I1 hv q1
      refine ⟨k, tru_O ro q3, ?_⟩
      cases k with
      | true =>
        obtain ⟨F1', I1', L1'⟩ := clean L F1 I1 L1
        exact ⟨_, e1, t, I1', L1', h1.step F1'⟩
      | false => exact h1.use F1 I1 L1 v hv
    · exact h1.elim
  · exact h1.elim
theorem m_or (ha : PE X a (tE X.K cx W ma)) (hb : PE X (.BoolOp .Or (b :: rest) pos) (tE X.K cx W mb)) : PE X (.BoolOp .Or (a :: b :: rest) pos) (tE X.K cx W (vOr ma mb)) := PEimp (pe_orT ha hb) fun σ H Q h => by
  obtain ⟨T, env, t, I, L, h⟩ := h
  refine ⟨T, env, t, I, L, h.bd fun r1 e1 T1 H1 F1 I1 L1 h1 v hv => ?_⟩
  try dsimp only at h1
  split at h1
  · rename_i o1 q1
    split at h1
    · rename_i k q3
      obtain ⟨rt, p, ro⟩ := look_rep I1 hv q1
      refine ⟨k, tru_O ro q3, ?_⟩
      cases k with
      | true => exact h1.use F1 I1 L1 v hv
      | false =>
        obtain ⟨F1', I1', L1'⟩ := clean L F1 I1 L1
        exact ⟨_, e1, t, I1', L1', h1.step F1'⟩
    · exact h1.elim
  · exact h1.elim
theorem m_not (ha : PE X a (tE X.K cx W ma)) : PE X (.UnaryOp .Not a pos) (tE X.K cx W (vNot ma)) := PEimp (pe_notT ha) fun σ H Q h => by
  obtain ⟨T, env, t, I, L, h⟩ := h
  refine tst_go (cx := cx) (W := W) (Q := fun k H' => Q (.bl (!k)) H') ⟨T, env, t, I, L, h.bd fun k e1 T1 H1 F1 I1 L1 h1 => ?_⟩
  exact h1.use F1 I1 L1 (.bl (!k)) (by simp only [RsRep, RepO, RepD])
theorem t_and1 (ha : PT X a (tT X.K cx W ta)) : PW X (.BoolOp .And [a] pos) (tT X.K cx W ta) := pw_and1 ha
theorem t_or1 (ha : PT X a (tT X.K cx W ta)) : PW X (.BoolOp .Or [a] pos) (tT X.K cx W ta) := pw_or1 ha
theorem t_and (ha : PT X a (tT X.K cx W ta)) (hb : PW X (.BoolOp .And (b :: rest) pos) (tT X.K cx W tb)) : PW X (.BoolOp .And (a :: b :: rest) pos) (tT X.K cx W (bAnd ta tb)) := PWimp (pw_and ha hb) fun σ H Q h => by
  obtain ⟨T, env, t, I, L, h⟩ := h
  refine ⟨T, env, t, I, L, h.bd fun k e1 T1 H1 F1 I1 L1 h1 => ?_⟩
  cases k with
  | true =>
    obtain ⟨F1', I1', L1'⟩ := clean L F1 I1 L1
    exact ⟨_, e1, t, I1', L1', h1.step F1'⟩
  | false => exact h1.use F1 I1 L1
theorem t_or (ha : PT X a (tT X.K cx W ta)) (hb : PW X (.BoolOp .Or (b :: rest) pos) (tT X.K cx W tb)) : PW X (.BoolOp .Or (a :: b :: rest) pos) (tT X.K cx W (bOr ta tb)) := PWimp (pw_or ha hb) fun σ H Q h => by
  obtain ⟨T, env, t, I, L, h⟩ := h
  refine ⟨T, env, t, I, L, h.bd fun k e1 T1 H1 F1 I1 L1 h1 => ?_⟩
  cases k with
  | true => exact h1.use F1 I1 L1
  | false =>
    obtain ⟨F1', I1', L1'⟩ := clean L F1 I1 L1
    exact ⟨_, e1, t, I1', L1', h1.step F1'⟩
theorem t_not (ha : PT X a (tT X.K cx W ta)) : PT X (.UnaryOp .Not a pos) (tT X.K cx W (bNot ta)) := PTimp (pt_not ha) fun σ H Q h => by
  obtain ⟨T, env, t, I, L, h⟩ := h
  exact ⟨T, env, t, I, L, h.bd fun k e1 T1 H1 F1 I1 L1 h1 => h1.use F1 I1 L1⟩
theorem m_ife {c : Expr} (hc : PT X c (tT X.K cx W ta)) (ha : PE X a (tE X.K cx W ma)) (hb : PE X b (tE X.K cx W mb)) : PE X (.IfExp c a b pos) (tE X.K cx W (eIf ta ma mb)) := PEimp (pe_ifExp hc ha hb) fun σ H Q h => by
  obtain ⟨T, env, t, I, L, h⟩ := h
  refine ⟨T, env, t, I, L, h.bd fun k e1 T1 H1 F1 I1 L1 h1 => ?_⟩
  obtain ⟨F1', I1', L1'⟩ := clean L F1 I1 L1
  cases k with
  | true => exact ⟨_, e1, t, I1', L1', h1.step F1'⟩
  | false => exact ⟨_, e1, t, I1', L1', h1.step F1'⟩
end

/-! ### calls of the text's own functions -/
inductive CR where
  | ok (o : O) (outs : Env) | ex (c : Nat) (outs : Env) | stuck
/-- arguments: those that the callee may change (a name's own list, handed over), the others given up -/
def prep : List Bool → List Rs → EM (List O)
  | [], [] => ret []
  | true :: ms, .nm i :: rs => fun e => match (e[i]?).join with
    | some o => (bd (prep ms rs) fun os => ret (o :: os)) (e.set i none)
    | none => .stuck
  | false :: ms, r :: rs => bd (gv r) fun d => bd (prep ms rs) fun os => ret (.s d :: os)
  | _, _ => fun _ => .stuck
def insOf : List Bool → List Rs → List (Option Nat)
  | true :: ms, .nm i :: rs => some i :: insOf ms rs
  | _ :: ms, _ :: rs => none :: insOf ms rs
  | _, _ => []
/-- and back -/
def backTo : List (Option Nat) → Nat → Env → Env → Env
  | [], _, _, e => e
  | some i :: is, j, outs, e => backTo is (j + 1) outs (e.set i ((outs[j]?).join))
  | none :: is, j, outs, e => backTo is (j + 1) outs e
def callU (cm : List O → CR) (mask : List Bool) (ms : List (EM Rs)) : EM Rs := bd (evs ms) fun rs => bd (prep mask rs) fun os => fun e => match cm os with
  | .ok o outs => .ok (.v o) (backTo (insOf mask rs) 0 outs e)
  | .ex c outs => .ex c (backTo (insOf mask rs) 0 outs e)
  | .stuck => .stuck
/-- what a function promises -/
def spM (K : PySem.W.Frag) (cx : Nat → Addr) (mask : List Bool) (cr : List O → CR) : Sp := fun vs H Q E => ∃ T args, args.length = mask.length ∧ vs.length = mask.length ∧ (∀ j o, args[j]? = some o → ∃ v, vs[j]? = some v ∧ RepO K T H o (.sl j) [] v) ∧ Lt 0 T ∧
  match cr args with
  | .ok o outs => ∀ v T' H', Fr T T' H H' → Lt 1 T' → RepO K T' H' o (.tm 0) [] v → (∀ j o, mask[j]? = some true → (outs[j]?).join = some o → ∃ v, vs[j]? = some v ∧ RepO K T' H' o (.sl j) [] v) → Q v H'
  | .ex c outs => ∀ T' H', Fr T T' H H' → Lt 1 T' → (∀ j o, mask[j]? = some true → (outs[j]?).join = some o → ∃ v, vs[j]? = some v ∧ RepO K T' H' o (.sl j) [] v) → E (.ref (cx c)) none H'
  | .stuck => False
def idxOf : List (Option Nat) → Nat → Option Nat
  | [], _ => none
  | some k :: is, i => if k = i then some 0 else (idxOf is i).map (· + 1)
  | none :: is, i => (idxOf is i).map (· + 1)
def tIn (ins : List (Option Nat)) (T : TM) : TM := fun a => match T a with
  | none => none
  | some (.sl i, p) => match idxOf ins i with
    | some j => some (.sl j, p)
    | none => some (.far, p)
  | some (_, p) => some (.far, p)
def tOut (ins : List (Option Nat)) (t : Nat) (T T' : TM) : TM := fun a => match T' a with
  | none => none
  | some (.far, _) => T a
  | some (.sl j, p) => match (ins[j]?).join with
    | some i => some (.sl i, p)
    | none => none
  | some (.tm j, p) => if j = 0 then some (.tm t, p) else none
section
variable {K : PySem.W.Frag} {σ : L2.St}
def ArgsRep (K : PySem.W.Frag) (σ : L2.St) (T : TM) (H : Hp) : List (Option Nat) → List O → List V → Prop
  | [], os, vs => os = [] ∧ vs = []
  | some i :: is, os, vs => ∃ o os' v vs', os = o :: os' ∧ vs = v :: vs' ∧ σ[i]? = some (some v) ∧ RepO K T H o (.sl i) [] v ∧ ArgsRep K σ T H is os' vs'
  | none :: is, os, vs => ∃ d os' v vs', os = .s d :: os' ∧ vs = v :: vs' ∧ RepD K (S T H) d v ∧ ArgsRep K σ T H is os' vs'
theorem gv_ok' {T T1 : TM} {H H1 : Hp} {t : Nat} {e1 e2 : Env} {r : Rs} {v : V} {d : D} (L : Lt t T) (F : Fr T T1 H H1) (I1 : EI K T1 H1 e1 σ) (L1 : Lt (t + 1) T1) (h : RsRep K σ T1 H1 t r v) (e : gv r e1 = .ok d e2) :
    ∃ q, Fr T (untag q T1) H H1 ∧ EI K (untag q T1) H1 e2 σ ∧ Lt (t + 1) (untag q T1) ∧ RepD K (S (untag q T1) H1) d v ∧ (∀ i : Nat, (e1[i]?).join = none → q (.sl i) = false ∧ (e2[i]?).join = none) := by
  cases r with
  | nm i =>
    simp only [gv] at e
    split at e
    · rename_i o q
      simp only [R.ok.injEq] at e
      obtain ⟨rfl, rfl⟩ := e
      obtain ⟨w, e3, rd, I2⟩ := sl_frz I1 (by simpa only [Option.join_eq_some_iff] using q)
      have h' : σ[i]? = some (some v) := h
      rw [h'] at e3
      cases e3
      refine ⟨isSl i, fr_untagS F, I2, lt_untagS L1, rd, fun j hj => ?_⟩
      have hij : i ≠ j := fun z => by rw [← z, q] at hj; cases hj
      refine ⟨by simp [isSl]; omega, ?_⟩
      rw [List.getElem?_set_ne hij]
      exact hj
    · cases e
  | v o =>
    simp only [gv, R.ok.injEq] at e
    obtain ⟨rfl, rfl⟩ := e
    exact ⟨isTm t, fr_untag F L, untag_tm I1, lt_untagS L1, tm_frz h, fun i hi => ⟨rfl, hi⟩⟩
theorem prep_noex : ∀ {mask : List Bool} {rs : List Rs} {e : Env} {c : Nat} {e2 : Env}, prep mask rs e ≠ .ex c e2
  | [], [], e, c, e2 => by simp [prep, ret]
  | true :: ms, .nm i :: rs, e, c, e2 => by
    simp only [prep]
    split
    · simp only [bd]
      split
      · simp [ret]
      · rename_i q; exact absurd q prep_noex
      · simp
    · simp
  | false :: ms, r :: rs, e, c, e2 => by
    simp only [prep, bd]
    split
    · split
      · simp [ret]
      · rename_i q; exact absurd q prep_noex
      · simp
    · rename_i q; exact absurd q gv_noex
    · simp
  | [], _ :: _, e, c, e2 => by simp [prep]
  | true :: _, [], e, c, e2 => by simp [prep]
  | true :: _, .v _ :: _, e, c, e2 => by simp [prep]
  | false :: _, [], e, c, e2 => by simp [prep]
theorem ei_drop {T : TM} {H : Hp} {env : Env} {i : Nat} (I : EI K T H env σ) : EI K T H (env.set i none) σ :=
  ⟨by rw [List.length_set]; exact I.len, fun j o h => by
    by_cases hj : i = j
    · subst hj
      by_cases hi : i < env.length
      · rw [List.getElem?_set_self hi] at h; cases h
      · rw [List.getElem?_eq_none (by rw [List.length_set]; omega)] at h; cases h
    · rw [List.getElem?_set_ne hj] at h
      exact I.at_ j o h⟩
theorem prep_ok {T : TM} {H H1 : Hp} {t : Nat} (L : Lt t T) : ∀ {mask : List Bool} {rs : List Rs} {vs : List V} {T1 : TM} {e1 e2 : Env} {os : List O}, Opn rs → Fr T T1 H H1 → EI K T1 H1 e1 σ → Lt (t + 1) T1 → RsReps K σ T1 H1 t rs vs → prep mask rs e1 = .ok os e2 →
    ∃ T2, Fr T T2 H H1 ∧ EI K T2 H1 e2 σ ∧ Lt (t + 1) T2 ∧ ArgsRep K σ T2 H1 (insOf mask rs) os vs ∧ (∀ b, T1 b = none → T2 b = none) ∧
      (∀ i : Nat, (e1[i]?).join = none → (∀ b p, T1 b = some (.sl i, p) → T2 b = some (.sl i, p)) ∧ some i ∉ insOf mask rs) ∧ (∀ i : Nat, (e1[i]?).join = none → (e2[i]?).join = none) ∧ (∀ i : Nat, some i ∈ insOf mask rs → (e2[i]?).join = none) ∧
      (∀ (i j : Nat), (insOf mask rs)[j]? = some (some i) → idxOf (insOf mask rs) i = some j)
  | [], [], vs, T1, e1, e2, os, op, F, I, L1, h, e => by
    simp only [prep, ret, R.ok.injEq] at e
    obtain ⟨rfl, rfl⟩ := e
    exact ⟨T1, F, I, L1, ⟨rfl, h⟩, fun _ z => z, fun i _ => ⟨fun _ _ z => z, by simp [insOf]⟩, fun _ z => z, fun i z => by simp [insOf] at z, fun i j z => by simp [insOf] at z⟩
  | true :: ms, .nm i :: rs, vs, T1, e1, e2, os, op, F, I, L1, h, e => by
    obtain ⟨v, ws, rfl, h1, h2⟩ := h
    simp only [prep] at e
    split at e
    · rename_i o q
      simp only [bd] at e
      split at e
      · rename_i os2 e4 q2
        simp only [ret, R.ok.injEq] at e
        obtain ⟨rfl, rfl⟩ := e
        have op2 : Opn rs := fun x hx => op x (List.mem_cons_of_mem _ hx)
        obtain ⟨w, ew, ro⟩ := I.at_ i o (by simpa only [Option.join_eq_some_iff] using q)
        have h' : σ[i]? = some (some v) := h1
        rw [h'] at ew
        cases ew
        have ni : ((e1.set i none)[i]?).join = none := by
          by_cases hi : i < e1.length
          · rw [List.getElem?_set_self hi]; rfl
          · rw [List.getElem?_eq_none (by rw [List.length_set]; omega)]; rfl
        obtain ⟨T2, F2, I2, L2, A2, mono, keep, stay, gone, uq⟩ := prep_ok L op2 F (ei_drop (i := i) I) L1 h2 q2
        obtain ⟨kp, nin⟩ := keep i ni
        have nj : ∀ j, (e1[j]?).join = none → ((e1.set i none)[j]?).join = none := fun j hj => by
          by_cases hij : i = j
          · subst hij; exact ni
          · rw [List.getElem?_set_ne hij]; exact hj
        refine ⟨T2, F2, I2, L2, ⟨o, os2, v, ws, rfl, rfl, h', ?_, A2⟩, mono, fun j hj => ⟨(keep j (nj j hj)).1, ?_⟩, fun j hj => stay j (nj j hj), fun j hj => ?_, fun j k hk => ?_⟩
        · exact RepO_map (fun b o t e => ⟨mono b t, e⟩) (fun b o p t e => ⟨kp b p t, e⟩) o [] v ro
        · simp only [insOf, List.mem_cons, Option.some.injEq, not_or]
          exact ⟨fun z => (by rw [z, q] at hj; cases hj), (keep j (nj j hj)).2⟩
        · simp only [insOf, List.mem_cons, Option.some.injEq] at hj
          rcases hj with z | z
          · rw [z]; exact stay i ni
          · exact gone j z
        · cases k with
          | zero =>
            simp only [insOf, List.getElem?_cons_zero, Option.some.injEq] at hk
            subst hk
            simp [insOf, idxOf]
          | succ k =>
            simp only [insOf, List.getElem?_cons_succ] at hk
            have hne : i ≠ j := fun z => nin (by rw [z]; exact List.mem_of_getElem? hk)
            simp only [insOf, idxOf, if_neg hne, uq j k hk, Option.map_some]
      · cases e
      · cases e
    · cases e
  | false :: ms, r :: rs, vs, T1, e1, e2, os, op, F, I, L1, h, e => by
    obtain ⟨v, ws, rfl, h1, h2⟩ := h
    simp only [prep, bd] at e
    split at e
    · rename_i d e3 q1
      split at e
      · rename_i os2 e4 q2
        simp only [ret, R.ok.injEq] at e
        obtain ⟨rfl, rfl⟩ := e
        obtain ⟨q, F2, I2, L2, rd, kq⟩ := gv_ok' L F I L1 h1 q1
        have op2 : Opn rs := fun x hx => op x (List.mem_cons_of_mem _ hx)
        obtain ⟨T2, F3, I3, L3, A3, mono, keep, stay, gone, uq⟩ := prep_ok L op2 F2 I2 L2 (opns_untag op2 h2) q2
        have ei : insOf (false :: ms) (r :: rs) = none :: insOf ms rs := by cases r <;> rfl
        rw [ei]
        refine ⟨T2, F3, I3, L3, ⟨d, os2, v, ws, rfl, rfl, RepD_mono (fun b o e => S_some.mpr ⟨mono b (S_some.mp e).1, (S_some.mp e).2⟩) d v rd, A3⟩, fun b z => mono b (untag_none z), fun j hj => ⟨fun b p z => (keep j (kq j hj).2).1 b p (untag_miss z (kq j hj).1), ?_⟩,
          fun j hj => stay j (kq j hj).2, fun j hj => ?_, fun j k hk => ?_⟩
        · simp only [List.mem_cons, not_or]
          exact ⟨by simp, (keep j (kq j hj).2).2⟩
        · simp only [List.mem_cons] at hj
          rcases hj with z | z
          · cases z
          · exact gone j z
        · cases k with
          | zero => simp at hk
          | succ k =>
            simp only [List.getElem?_cons_succ] at hk
            simp only [idxOf, uq j k hk, Option.map_some]
      · cases e
      · cases e
    · cases e
    · cases e
  | [], _ :: _, vs, T1, e1, e2, os, op, F, I, L1, h, e => by simp [prep] at e
  | true :: _, [], vs, T1, e1, e2, os, op, F, I, L1, h, e => by simp [prep] at e
  | true :: _, .v _ :: _, vs, T1, e1, e2, os, op, F, I, L1, h, e => by simp [prep] at e
  | false :: _, [], vs, T1, e1, e2, os, op, F, I, L1, h, e => by simp [prep] at e
theorem prep_len : ∀ {mask : List Bool} {rs : List Rs} {e e2 : Env} {os : List O}, prep mask rs e = .ok os e2 → os.length = mask.length ∧ (insOf mask rs).length = mask.length
  | [], [], e, e2, os, h => by
    simp only [prep, ret, R.ok.injEq] at h
    rw [← h.1]; exact ⟨rfl, rfl⟩
  | true :: ms, .nm i :: rs, e, e2, os, h => by
    simp only [prep, bd] at h
    split at h
    · split at h
      · rename_i q2
        simp only [ret, R.ok.injEq] at h
        rw [← h.1]
        obtain ⟨l1, l2⟩ := prep_len q2
        simp [insOf, l1, l2]
      · cases h
      · cases h
    · cases h
  | false :: ms, r :: rs, e, e2, os, h => by
    simp only [prep, bd] at h
    split at h
    · split at h
      · rename_i q2
        simp only [ret, R.ok.injEq] at h
        rw [← h.1]
        obtain ⟨l1, l2⟩ := prep_len q2
        cases r <;> simp [insOf, l1, l2]
      · cases h
      · cases h
    · cases h
    · cases h
  | [], _ :: _, e, e2, os, h => by simp [prep] at h
  | true :: _, [], e, e2, os, h => by simp [prep] at h
  | true :: _, .v _ :: _, e, e2, os, h => by simp [prep] at h
  | false :: _, [], e, e2, os, h => by simp [prep] at h
theorem insOf_mask : ∀ {mask : List Bool} {rs : List Rs} {j i : Nat}, (insOf mask rs)[j]? = some (some i) → mask[j]? = some true
  | [], rs, j, i, h => by cases rs <;> simp [insOf] at h
  | true :: ms, [], j, i, h => by simp [insOf] at h
  | true :: ms, .v o :: rs, j, i, h => by
    cases j with
    | zero => simp [insOf] at h
    | succ j => simp only [insOf, List.getElem?_cons_succ] at h; simpa using insOf_mask h
  | true :: ms, .nm k :: rs, j, i, h => by
    cases j with
    | zero => rfl
    | succ j => simp only [insOf, List.getElem?_cons_succ] at h; simpa using insOf_mask h
  | false :: ms, [], j, i, h => by simp [insOf] at h
  | false :: ms, r :: rs, j, i, h => by
    have ei : insOf (false :: ms) (r :: rs) = none :: insOf ms rs := by cases r <;> rfl
    rw [ei] at h
    cases j with
    | zero => simp at h
    | succ j => simp only [List.getElem?_cons_succ] at h; simpa using insOf_mask h
theorem args_len {T : TM} {H : Hp} : ∀ {is : List (Option Nat)} {os : List O} {vs : List V}, ArgsRep K σ T H is os vs → os.length = is.length ∧ vs.length = is.length
  | [], os, vs, h => by obtain ⟨rfl, rfl⟩ := h; exact ⟨rfl, rfl⟩
  | some i :: is, os, vs, h => by
    obtain ⟨o, os', v, vs', rfl, rfl, _, _, r⟩ := h
    obtain ⟨a, b⟩ := args_len r
    simp [a, b]
  | none :: is, os, vs, h => by
    obtain ⟨o, os', v, vs', rfl, rfl, _, r⟩ := h
    obtain ⟨a, b⟩ := args_len r
    simp [a, b]
theorem args_at {T : TM} {H : Hp} : ∀ {is : List (Option Nat)} {os : List O} {vs : List V} {j : Nat} {o : O}, ArgsRep K σ T H is os vs → os[j]? = some o →
    ∃ v, vs[j]? = some v ∧ ((∃ i, is[j]? = some (some i) ∧ σ[i]? = some (some v) ∧ RepO K T H o (.sl i) [] v) ∨ ∃ d, o = .s d ∧ RepD K (S T H) d v)
  | [], os, vs, j, o, h, e => by obtain ⟨rfl, rfl⟩ := h; simp at e
  | some i :: is, os, vs, j, o, h, e => by
    obtain ⟨o', os', v, vs', rfl, rfl, s1, r1, r⟩ := h
    cases j with
    | zero => simp at e; subst e; exact ⟨v, rfl, .inl ⟨i, rfl, s1, r1⟩⟩
    | succ j => simpa using args_at r (by simpa using e)
  | none :: is, os, vs, j, o, h, e => by
    obtain ⟨o', os', v, vs', rfl, rfl, r1, r⟩ := h
    cases j with
    | zero => simp at e; subst e; exact ⟨v, rfl, .inr ⟨_, rfl, r1⟩⟩
    | succ j => simpa using args_at r (by simpa using e)
theorem args_in {T : TM} {H : Hp} : ∀ {is : List (Option Nat)} {os : List O} {vs : List V} {j i : Nat}, ArgsRep K σ T H is os vs → is[j]? = some (some i) → ∃ v, vs[j]? = some v ∧ σ[i]? = some (some v)
  | [], os, vs, j, i, h, e => by simp at e
  | some k :: is, os, vs, j, i, h, e => by
    obtain ⟨o', os', v, vs', rfl, rfl, s1, r1, r⟩ := h
    cases j with
    | zero => simp at e; subst e; exact ⟨v, rfl, s1⟩
    | succ j => simpa using args_in r (by simpa using e)
  | none :: is, os, vs, j, i, h, e => by
    obtain ⟨o', os', v, vs', rfl, rfl, r1, r⟩ := h
    cases j with
    | zero => simp at e
    | succ j => simpa using args_in r (by simpa using e)
theorem back_len : ∀ {is : List (Option Nat)} {j : Nat} {outs e : Env}, (backTo is j outs e).length = e.length
  | [], _, _, _ => rfl
  | some i :: is, j, outs, e => by simp only [backTo]; rw [back_len, List.length_set]
  | none :: is, j, outs, e => by simp only [backTo]; rw [back_len]
/-- a slot behind the call: an argument's, handed back, or as it was -/
theorem back_at : ∀ {is : List (Option Nat)} {j : Nat} {outs e : Env} {i : Nat} {o : O}, (backTo is j outs e)[i]? = some (some o) → (∃ k, is[k]? = some (some i) ∧ (outs[j + k]?).join = some o) ∨ (some i ∉ is ∧ e[i]? = some (some o))
  | [], j, outs, e, i, o, h => .inr ⟨by simp, h⟩
  | none :: is, j, outs, e, i, o, h => by
    simp only [backTo] at h
    rcases back_at h with ⟨k, h1, h2⟩ | ⟨h1, h2⟩
    · exact .inl ⟨k + 1, by simpa using h1, by rw [show j + (k + 1) = j + 1 + k by omega]; exact h2⟩
    · exact .inr ⟨by simp [h1], h2⟩
  | some q :: is, j, outs, e, i, o, h => by
    simp only [backTo] at h
    rcases back_at h with ⟨k, h1, h2⟩ | ⟨h1, h2⟩
    · exact .inl ⟨k + 1, by simpa using h1, by rw [show j + (k + 1) = j + 1 + k by omega]; exact h2⟩
    · by_cases hq : q = i
      · subst hq
        by_cases hl : q < e.length
        · rw [List.getElem?_set_self hl] at h2
          exact .inl ⟨0, rfl, by simpa using h2⟩
        · rw [List.getElem?_eq_none (by rw [List.length_set]; omega)] at h2; cases h2
      · rw [List.getElem?_set_ne hq] at h2
        refine .inr ⟨?_, h2⟩
        simp only [List.mem_cons, Option.some.injEq, not_or]
        exact ⟨fun z => hq z.symm, h1⟩
/-- the callee's view of the heap -/
theorem tIn_none {ins : List (Option Nat)} {T : TM} {a : Addr} (h : T a = none) : tIn ins T a = none := by unfold tIn; rw [h]
theorem tIn_hit {ins : List (Option Nat)} {T : TM} {a : Addr} {i j : Nat} {p : List Nat} (h : T a = some (.sl i, p)) (hj : idxOf ins i = some j) : tIn ins T a = some (.sl j, p) := by unfold tIn; rw [h]; simp [hj]
theorem tIn_miss {ins : List (Option Nat)} {T : TM} {a : Addr} {i : Nat} {p : List Nat} (h : T a = some (.sl i, p)) (hj : idxOf ins i = none) : tIn ins T a = some (.far, p) := by unfold tIn; rw [h]; simp [hj]
theorem tIn_tm {ins : List (Option Nat)} {T : TM} {a : Addr} {i : Nat} {p : List Nat} (h : T a = some (.tm i, p)) : tIn ins T a = some (.far, p) := by unfold tIn; rw [h]
theorem tIn_far {ins : List (Option Nat)} {T : TM} {a : Addr} {p : List Nat} (h : T a = some (.far, p)) : tIn ins T a = some (.far, p) := by unfold tIn; rw [h]
theorem idxOf_mem {i : Nat} : ∀ {is : List (Option Nat)} {j : Nat}, idxOf is i = some j → some i ∈ is
  | [], j, h => by simp [idxOf] at h
  | some k :: is, j, h => by
    simp only [idxOf] at h
    split at h
    · rename_i q; subst q; exact List.mem_cons_self
    · cases q : idxOf is i with
      | none => rw [q] at h; cases h
      | some z => exact List.mem_cons_of_mem _ (idxOf_mem q)
  | none :: is, j, h => by
    simp only [idxOf] at h
    cases q : idxOf is i with
    | none => rw [q] at h; cases h
    | some z => exact List.mem_cons_of_mem _ (idxOf_mem q)
theorem lt_in {ins : List (Option Nat)} {T : TM} : Lt 0 (tIn ins T) := fun b i p e => by
  unfold tIn at e
  split at e
  · cases e
  · split at e <;> cases e
  · cases e
/-- the callee's frame, seen by the caller -/
theorem call_frame {T2 T' : TM} {H1 H' : Hp} {ins : List (Option Nat)} {t : Nat} {e2 outs : Env} {os : List O} {vs : List V} (I : EI K T2 H1 e2 σ) (L : Lt (t + 1) T2) (A : ArgsRep K σ T2 H1 ins os vs) (gone : ∀ i : Nat, some i ∈ ins → (e2[i]?).join = none)
    (F : Fr (tIn ins T2) T' H1 H') (uq : ∀ (i j : Nat), ins[j]? = some (some i) → idxOf ins i = some j) (out : ∀ (j i : Nat) (o : O), ins[j]? = some (some i) → (outs[j]?).join = some o → ∃ v, vs[j]? = some v ∧ RepO K T' H' o (.sl j) [] v) :
    Fr (tIn ins T2) T' H1 H' ∧ (∀ b, H1 b ≠ none → Kept (T2 b) → T2 b = tOut ins t T2 T' b) ∧ EI K (tOut ins t T2 T') H' (backTo ins 0 outs e2) σ ∧ Lt (t + 1) (tOut ins t T2 T') ∧ (∀ o v, RepO K T' H' o (.tm 0) [] v → RepO K (tOut ins t T2 T') H' o (.tm t) [] v) ∧
      (∀ b o, H1 b = some o → Kept (T2 b) → H' b = some o) ∧ (∀ b p, tOut ins t T2 T' b = some (.far, p) → T2 b = some (.far, p)) := by
  have farK : ∀ b o, H1 b = some o → (∃ p, tIn ins T2 b = some (.far, p)) → H' b = some o ∧ tOut ins t T2 T' b = T2 b := fun b o e ⟨p, h⟩ => by
    obtain ⟨e1, t1⟩ := F.keep b o e (.inr (.inl ⟨p, h⟩))
    refine ⟨e1, ?_⟩
    unfold tOut
    rw [t1, h]
  have noneK : ∀ b o, H1 b = some o → T2 b = none → H' b = some o ∧ tOut ins t T2 T' b = none := fun b o e h => by
    obtain ⟨e1, t1⟩ := F.keep b o e (.inl (tIn_none h))
    refine ⟨e1, ?_⟩
    unfold tOut
    rw [t1, tIn_none h]
  have keptK : ∀ b o, H1 b = some o → Kept (T2 b) → H' b = some o ∧ tOut ins t T2 T' b = T2 b := fun b o e k => by
    rcases k with k | ⟨p, k⟩ | ⟨i, p, k⟩
    · rw [k]; exact noneK b o e k
    · exact farK b o e ⟨p, tIn_far k⟩
    · exact farK b o e ⟨p, tIn_tm k⟩
  refine ⟨F, fun b hb k => ?_, ⟨by rw [back_len]; exact I.len, fun i o h => ?_⟩, fun b i p e => ?_, fun o v r => ?_, fun b o e k => (keptK b o e k).1, fun b p e => ?_⟩
  · obtain ⟨o, e⟩ := Option.ne_none_iff_exists'.mp hb
    exact (keptK b o e k).2.symm
  · rcases back_at h with ⟨k, h1, h2⟩ | ⟨h1, h2⟩
    · rw [Nat.zero_add] at h2
      obtain ⟨v, hv, r⟩ := out k i o h1 h2
      obtain ⟨w, hw, hs⟩ := args_in A h1
      rw [hv] at hw
      cases hw
      refine ⟨v, hs, RepO_map (fun b o t0 e => ⟨?_, e⟩) (fun b o p t0 e => ⟨?_, e⟩) o [] v r⟩
      · unfold tOut; rw [t0]
      · unfold tOut; rw [t0]; simp [h1]
    · obtain ⟨v, hs, r⟩ := I.at_ i o h2
      have ni : idxOf ins i = none := by
        cases q : idxOf ins i with
        | none => rfl
        | some j => exact absurd (idxOf_mem q) h1
      refine ⟨v, hs, RepO_map (fun b o t0 e => ⟨(noneK b o e t0).2, (noneK b o e t0).1⟩) (fun b o p t0 e => ?_) o [] v r⟩
      obtain ⟨e1, t1⟩ := farK b o e ⟨p, tIn_miss t0 ni⟩
      exact ⟨t1.trans t0, e1⟩
  · unfold tOut at e
    split at e
    · cases e
    · exact L b i p e
    · split at e <;> cases e
    · split at e
      · cases e; omega
      · cases e
  · refine RepO_map (fun b o t0 e => ⟨?_, e⟩) (fun b o p t0 e => ⟨?_, e⟩) o [] v r
    · unfold tOut; rw [t0]
    · unfold tOut; rw [t0]; simp
  · unfold tOut at e
    split at e
    · cases e
    · exact e
    · split at e <;> cases e
    · split at e <;> cases e
end
section
variable {X : Cx} {cx : Nat → Addr} {W : WX} {k : Nat} {f : Addr} {fd : FuncData} {ps : List Str} {mask : List Bool} {cm : List O → CR} {x : Str} {p pos : Pos} {e : Expr} {es : List Expr} {ms : List (EM Rs)}
theorem callU_go {σ : L2.St} {H : Hp} {Q : VK} {rsm : EM (List Rs)} (opn : ∀ env rs e1, rsm env = .ok rs e1 → Opn rs) (h : tE X.K cx W (bd rsm fun rs => bd (prep mask rs) fun os => fun e => match cm os with
      | .ok o outs => .ok (.v o) (backTo (insOf mask rs) 0 outs e)
      | .ex c outs => .ex c (backTo (insOf mask rs) 0 outs e)
      | .stuck => .stuck) σ H Q) : tCallS (spM X.K cx mask cm) (WE W) (tA X.K cx W rsm) σ H Q := by
  obtain ⟨T, env, t, I, L, h⟩ := h
  refine ⟨T, env, t, I, L, ?_⟩
  unfold Wk bd at h
  cases ee : rsm env with
  | stuck => rw [ee] at h; exact h.elim
  | ex c e' => rw [ee] at h; exact h
  | ok rs e1 =>
    rw [ee] at h
    have op := opn env rs e1 ee
    intro T1 H1 F1 I1 L1 vs hvs
    dsimp only at h
    cases q : prep mask rs e1 with
    | stuck => rw [q] at h; exact h.elim
    | ex c e' => exact absurd q prep_noex
    | ok os e2 =>
      rw [q] at h
      dsimp only at h
      obtain ⟨T2, F2, I2, L2, A2, mono, keep, stay, gone, uq⟩ := prep_ok L op F1 I1 L1 hvs q
      obtain ⟨l1, l2⟩ := prep_len q
      obtain ⟨l3, l4⟩ := args_len A2
      refine ⟨tIn (insOf mask rs) T2, os, l1, l4.trans l2, fun j o ho => ?_, lt_in, ?_⟩
      · obtain ⟨v, hv, c⟩ := args_at A2 ho
        refine ⟨v, hv, ?_⟩
        rcases c with ⟨i, h1, h2, r⟩ | ⟨d, rfl, r⟩
        · exact RepO_map (fun b o t0 e => ⟨tIn_none t0, e⟩) (fun b o p t0 e => ⟨tIn_hit t0 (uq i j h1), e⟩) o [] v r
        · simp only [RepO]
          exact RepD_mono (fun b o e => S_some.mpr ⟨tIn_none (S_some.mp e).1, (S_some.mp e).2⟩) d v r
      have fr : ∀ {T' : TM} {H' : Hp}, Fr (tIn (insOf mask rs) T2) T' H1 H' → (∀ b, H1 b ≠ none → Kept (T2 b) → T2 b = tOut (insOf mask rs) t T2 T' b) → (∀ b o, H1 b = some o → Kept (T2 b) → H' b = some o) →
          (∀ b p, tOut (insOf mask rs) t T2 T' b = some (.far, p) → T2 b = some (.far, p)) → Fr T (tOut (insOf mask rs) t T2 T') H H' := fun {T' H'} F' a1 a2 a3 =>
        F2.trans ⟨fun b o e k => ⟨a2 b o e k, (a1 b (by rw [e]; simp) k).symm⟩, a3⟩
      cases r : cm os with
      | stuck => rw [r] at h; exact h.elim
      | ok o outs =>
        rw [r] at h
        dsimp only at h ⊢
        intro v T' H' F' L' ro out
        obtain ⟨_, a1, I', L'', res, a2, a3⟩ := call_frame (t := t) (outs := outs) I2 L2 A2 gone F' uq fun j i o hj ho => out j o (insOf_mask hj) ho
        exact h _ H' (fr F' a1 a2 a3) I' L'' v (res o v ro)
      | ex c outs =>
        rw [r] at h
        dsimp only at h ⊢
        intro T' H' F' L' out
        obtain ⟨_, a1, I', L'', res, a2, a3⟩ := call_frame (t := t) (outs := outs) I2 L2 A2 gone F' uq fun j i o hj ho => out j o (insOf_mask hj) ho
        exact h _ H' (fr F' a1 a2 a3) I' L''
/-- what is known of a function of the text -/
structure FF (P : Program) (w : World) (K : PySem.W.Frag) (mg : Str → Option Value) (base : Heap) (cx : Nat → Addr) (k : Nat) (x : Str) (f : Addr) (fd : FuncData) (ps : List Str) (mask : List Bool) (cm : List O → CR) : Prop where
  ok : FnOk P w K mg base (L2.CX P w) k f fd ps (spM K cx mask cm)
  gl : mg x = some (.ref f)
  kp : PySem.W.keepIn K (.ref f) = true
  bn : Binds K fd ps []
theorem m_call (F : FF X.prog X.w X.K X.mg X.base cx k x f fd ps mask cm) (hr : Room k X.A) (tk : Takes X W) (ha : PA X (e :: es) (tA X.K cx W (evs ms))) (hg : Gl X x := by rfl) (hdb : (x == ("__debug__" : Str)) = false := by decide)
    (he : starEach (e :: es) X.env = (false, eval e X.env) :: starEach es X.env := by rfl) (hpl : (PySem.backTo pos (starEach es X.env)).any (·.1) = false := by rfl) : PE X (.Call (.Name x p) (e :: es) [] pos) (tE X.K cx W (callU cm mask ms)) :=
  PEimp (pe_callS F.ok hr hg F.gl F.kp F.bn (fun σ => passAt tk σ) ha hdb he hpl) fun _ _ _ h => callU_go (fun _ _ _ q => (evs_opn q).1) h
end
end MI
/-! MiStmt: statements, loops, comprehensions, functions. -/
namespace MI
open PySem L2

inductive Fl where
  | nx | rt (o : O) | bk | ct
abbrev SM := EM Fl
def Pt (prot : Nat → Bool) (σ σ' : L2.St) : Prop := ∀ j, prot j = true → σ'[j]? = σ[j]?
theorem Pt.refl {prot : Nat → Bool} {σ : L2.St} : Pt prot σ σ := fun _ _ => rfl
theorem Pt.trans {prot : Nat → Bool} {σ σ1 σ2 : L2.St} (a : Pt prot σ σ1) (b : Pt prot σ1 σ2) : Pt prot σ σ2 := fun j h => (b j h).trans (a j h)
theorem Pt.set {prot : Nat → Bool} {σ : L2.St} {i : Nat} {x : Option V} (h : prot i = false) : Pt prot σ (σ.set i x) := fun j hj => by
  rw [List.getElem?_set_ne]
  intro e
  subst e
  rw [h] at hj
  cases hj
def Ws (K : PySem.W.Frag) (cx : Nat → Addr) (W : WX) (prot : Nat → Bool) (σ : L2.St) (T : TM) (H : Hp) (r : R Fl) (D : Ends) : Prop :=
  match r with
  | .ok .nx e' => ∀ T' H' σ', Fr T T' H H' → EI K T' H' e' σ' → Lt 0 T' → Pt prot σ σ' → D.nx σ' H'
  | .ok .bk e' => ∀ T' H' σ', Fr T T' H H' → EI K T' H' e' σ' → Lt 0 T' → Pt prot σ σ' → D.bk σ' H'
  | .ok .ct e' => ∀ T' H' σ', Fr T T' H H' → EI K T' H' e' σ' → Lt 0 T' → Pt prot σ σ' → D.ct σ' H'
  | .ok (.rt o) e' => ∀ v T' H' σ', Fr T T' H H' → EI K T' H' e' σ' → Lt 1 T' → Pt prot σ σ' → RepO K T' H' o (.tm 0) [] v → D.rt v H'
  | .ex c e' => ∀ T' H' σ', Fr T T' H H' → EI K T' H' e' σ' → Lt 1 T' → Pt prot σ σ' → W (.ref (cx c)) none σ' H'
  | .stuck => False
def tS (K : PySem.W.Frag) (cx : Nat → Addr) (W : WX) (prot : Nat → Bool) (m : SM) : TS := fun D σ H => ∃ T env, EI K T H env σ ∧ Lt 0 T ∧ Ws K cx W prot σ T H (m env) D
def sseq (a b : SM) : SM := bd a fun f => match f with
  | .nx => b
  | x => ret x
section
variable {K : PySem.W.Frag} {cx : Nat → Addr} {W : WX} {prot : Nat → Bool} {σ σ1 : L2.St} {T T1 : TM} {H H1 : Hp} {env e1 : Env} {De : Ends} {α : Type}
theorem Ws.step {r : R Fl} (h : Ws K cx W prot σ T H r De) (f : Fr T T1 H H1) (p : Pt prot σ σ1) : Ws K cx W prot σ1 T1 H1 r De := by
  cases r with
  | stuck => exact h
  | ex c e' => exact fun T' H' σ' F I L P => h T' H' σ' (f.trans F) I L (p.trans P)
  | ok fl e' =>
    cases fl with
    | nx => exact fun T' H' σ' F I L P => h T' H' σ' (f.trans F) I L (p.trans P)
    | bk => exact fun T' H' σ' F I L P => h T' H' σ' (f.trans F) I L (p.trans P)
    | ct => exact fun T' H' σ' F I L P => h T' H' σ' (f.trans F) I L (p.trans P)
    | rt o => exact fun v T' H' σ' F I L P => h v T' H' σ' (f.trans F) I L (p.trans P)
/-- a statement that begins with an expression or a test -/
theorem Ws.bd {m : EM α} {f : α → SM} {k : α → Env → TM → Hp → Prop} (h : Ws K cx W prot σ T H (bd m f env) De)
    (q : ∀ a e1 T1 H1, Fr T T1 H H1 → EI K T1 H1 e1 σ → Lt 1 T1 → Ws K cx W prot σ T H (f a e1) De → k a e1 T1 H1) : Wk K cx W σ T H 0 (m env) k := by
  unfold MI.bd at h
  cases e : m env with
  | ok a e' => rw [e] at h; exact fun T' H' F I L => q a e' T' H' F I L h
  | ex c e' => rw [e] at h; exact fun T' H' F I L => h T' H' σ F I L Pt.refl
  | stuck => rw [e] at h; exact h
theorem EI.setD {i : Nat} {d : D} {v : V} (I : EI K T H env σ) (r : RepD K (S T H) d v) : EI K T H (env.set i (some (.s d))) (σ.set i (some v)) := by
  by_cases hi : i < env.length
  · exact ei_set I hi r
  · rw [List.set_eq_of_length_le (by omega), List.set_eq_of_length_le (by rw [← I.len]; omega)]
    exact I
theorem EI.setO {i t : Nat} {o : O} {v : V} (I : EI K T H env σ) (r : RepO K T H o (.tm t) [] v) : EI K (retag t i T) H (env.set i (some o)) (σ.set i (some v)) := by
  by_cases hi : i < env.length
  · exact ei_move I hi r
  · rw [List.set_eq_of_length_le (by omega), List.set_eq_of_length_le (by rw [← I.len]; omega)]
    exact ⟨I.len, fun j u h => by
      obtain ⟨w, e2, q⟩ := I.at_ j u h
      exact ⟨w, e2, RepO_map (fun b o t e => S_retag t e) (fun b o p t e => ⟨retag_sl t, e⟩) u [] w q⟩⟩
end
section
variable {X : Cx} {cx : Nat → Addr} {W : WX} {prot : Nat → Bool} {st : Stmt} {rest : List Stmt} {m u : SM} {e : Expr} {me mb : EM Rs} {pos : Pos}
theorem s_nil : PSs X [] (tS X.K cx W prot (ret .nx)) := PSsimp pss_nil fun D σ H h => by
  obtain ⟨T, env, I, L, h⟩ := h
  exact h T H σ Fr.refl I L Pt.refl
theorem s_cons (h1 : PS X st (tS X.K cx W prot m)) (h2 : PSs X rest (tS X.K cx W prot u)) : PSs X (st :: rest) (tS X.K cx W prot (sseq m u)) := PSsimp (pss_cons h1 h2) fun D σ H h => by
  obtain ⟨T, env, I, L, h⟩ := h
  refine ⟨T, env, I, L, ?_⟩
  unfold sseq bd at h
  cases q : m env with
  | stuck => rw [q] at h; exact h
  | ex c e' => rw [q] at h; exact h
  | ok fl e' =>
    rw [q] at h
    cases fl with
    | nx => exact fun T1 H1 σ1 F1 I1 L1 P1 => ⟨T1, e', I1, L1, h.step F1 P1⟩
    | bk => exact h
    | ct => exact h
    | rt o => exact h
theorem s_one (h1 : PS X st (tS X.K cx W prot m)) : PSs X [st] (tS X.K cx W prot m) := pss_one h1
theorem s_pass : PS X (.Pass pos) (tS X.K cx W prot (ret .nx)) := PSimp ps_pass fun D σ H h => by
  obtain ⟨T, env, I, L, h⟩ := h
  exact h T H σ Fr.refl I L Pt.refl
theorem s_break : PS X (.Break pos) (tS X.K cx W prot (ret .bk)) := PSimp ps_break fun D σ H h => by
  obtain ⟨T, env, I, L, h⟩ := h
  exact h T H σ Fr.refl I L Pt.refl
theorem s_cont : PS X (.Continue pos) (tS X.K cx W prot (ret .ct)) := PSimp ps_continue fun D σ H h => by
  obtain ⟨T, env, I, L, h⟩ := h
  exact h T H σ Fr.refl I L Pt.refl
/-- x = e -/
def hold : Rs → EM O
  | .nm i => fun e => match (e[i]?).join with
    | some o => .ok (.s (frz o)) (e.set i (some (.s (frz o))))
    | none => .stuck
  | .v o => ret o
theorem hold_ok {K : PySem.W.Frag} {σ : L2.St} {T T1 : TM} {H H1 : Hp} {t u : Nat} {e1 e2 : Env} {r : Rs} {v : V} {o : O} (F : Fr T T1 H H1) (I1 : EI K T1 H1 e1 σ) (L1 : Lt u T1) (h : RsRep K σ T1 H1 t r v) (e : hold r e1 = .ok o e2) :
    ∃ q, Fr T (untag q T1) H H1 ∧ EI K (untag q T1) H1 e2 σ ∧ Lt u (untag q T1) ∧ RepO K (untag q T1) H1 o (.tm t) [] v ∧ (∀ i, q (.tm i) = false) := by
  cases r with
  | nm i =>
    simp only [hold] at e
    split at e
    · rename_i o q
      simp only [R.ok.injEq] at e
      obtain ⟨rfl, rfl⟩ := e
      obtain ⟨w, e3, rd, I2⟩ := sl_frz I1 (by simpa only [Option.join_eq_some_iff] using q)
      have h' : σ[i]? = some (some v) := h
      rw [h'] at e3
      cases e3
      exact ⟨isSl i, fr_untagS F, I2, lt_untagS L1, by simpa only [RepO] using rd, fun _ => rfl⟩
    · cases e
  | v o =>
    simp only [hold, ret, R.ok.injEq] at e
    obtain ⟨rfl, rfl⟩ := e
    have z : untag (fun _ => false) T1 = T1 := by
      funext b
      unfold untag
      split
      · rename_i q p h; simp [h]
      · rename_i h; rw [h]
    refine ⟨fun _ => false, ?_⟩
    rw [z]
    exact ⟨F, I1, L1, h, fun _ => rfl⟩
theorem hold_noex {r : Rs} {e : Env} {c : Nat} {e2 : Env} : hold r e ≠ .ex c e2 := by
  cases r with
  | nm i => simp only [hold]; split <;> simp
  | v o => simp [hold, ret]
def sAsg (i : Nat) (m : EM Rs) : SM := bd m fun r => bd (hold r) fun o => fun e => .ok .nx (e.set i (some o))
theorem asg_go {i : Nat} (hp : prot i = false) {D : Ends} {σ : L2.St} {H : Hp} (h : tS X.K cx W prot (sAsg i me) D σ H) : tAsg (tE X.K cx W me) (gName i) D σ H := by
  obtain ⟨T, env, I, L, h⟩ := h
  refine ⟨T, env, 0, I, L, h.bd fun r1 e1 T1 H1 F1 I1 L1 h1 v hv => ?_⟩
  unfold bd at h1
  cases q : hold r1 e1 with
  | stuck => rw [q] at h1; exact h1.elim
  | ex c e' => exact absurd q hold_noex
  | ok o e2 =>
    rw [q] at h1
    obtain ⟨z, F2, I2, L2, r2, _⟩ := hold_ok F1 I1 L1 hv q
    exact h1 _ H1 _ (fr_retag (t := 0) (i := i) F2 L) (I2.setO r2) (lt_retag L2) (Pt.set hp)
theorem s_asg {i : Nat} {x : Str} {pos' : Pos} (he : PE X e (tE X.K cx W me)) (hN : X.N.Nodup) (hp : prot i = false := by rfl) (hi : X.N[i]? = some x := by rfl) (hx : Loc X.env.scope x := by first | exact Or.inl rfl | exact Or.inr rfl)
    (hs : swapsWith e (some (.Name x pos')) pos.line X.env = pure false := by rfl) (hf : X.fn x = true ∨ X.env.scope.names.lookup x = some .local := by first | exact .inl rfl | exact .inr rfl) : PS X (.Assign [.Name x pos'] e pos) (tS X.K cx W prot (sAsg i me)) :=
  PSimp (ps_set hN hi hx he hs hf) fun _ _ _ h => asg_go hp h
/-- a, b = e1, e2 -/
def sPar (i j : Nat) (ma mb : EM Rs) : SM := bd ma fun r1 => bd mb fun r2 => bd (hold r1) fun o1 => bd (hold r2) fun o2 => fun e => .ok .nx ((e.set i (some o1)).set j (some o2))
theorem fr_tm {K : PySem.W.Frag} {T T' : TM} {H H' : Hp} {o : O} {t : Nat} {p : List Nat} {v : V} (F : Fr T T' H H') (h : RepO K T H o (.tm t) p v) : RepO K T' H' o (.tm t) p v :=
  RepO_map (fun b o t0 e => by
    obtain ⟨e1, t1⟩ := F.keep b o e (.inl t0)
    exact ⟨t1.trans t0, e1⟩) (fun b o p t0 e => by
    obtain ⟨e1, t1⟩ := F.keep b o e (.inr (.inr ⟨_, _, t0⟩))
    exact ⟨t1.trans t0, e1⟩) o p v h
theorem rs_fr {K : PySem.W.Frag} {σ : L2.St} {T T' : TM} {H H' : Hp} {r : Rs} {t : Nat} {v : V} (F : Fr T T' H H') (h : RsRep K σ T H t r v) : RsRep K σ T' H' t r v := by
  cases r with
  | nm i => exact h
  | v o => exact fr_tm F h
theorem rs_untag {K : PySem.W.Frag} {σ : L2.St} {T : TM} {H : Hp} {q : Rt → Bool} {r : Rs} {t : Nat} {v : V} (hq : q (.tm t) = false) (h : RsRep K σ T H t r v) : RsRep K σ (untag q T) H t r v := by
  cases r with
  | nm i => exact h
  | v o => exact RepO_map (fun b o t0 e => ⟨untag_none t0, e⟩) (fun b o p t0 e => ⟨untag_miss t0 hq, e⟩) o [] v h
theorem hold_nm {i : Nat} {e e2 : Env} {o : O} (h : hold (.nm i) e = .ok o e2) : ∃ d, o = .s d := by
  simp only [hold] at h
  split at h
  · cases h; exact ⟨_, rfl⟩
  · cases h
theorem Wk.up {K : PySem.W.Frag} {cx : Nat → Addr} {W : WX} {σ : L2.St} {T T1 : TM} {H H1 : Hp} {t : Nat} {α : Type} {r : R α} {k k1 : α → Env → TM → Hp → Prop} (L : Lt t T) (h : Wk K cx W σ T H t r k) (F : Fr T T1 H H1)
    (q : ∀ a e2, r = .ok a e2 → ∀ T2 H2, Fr T1 T2 H1 H2 → EI K T2 H2 e2 σ → Lt (t + 2) T2 → k1 a e2 T2 H2) : Wk K cx W σ T1 H1 (t + 1) r k1 := by
  cases r with
  | stuck => exact h
  | ok a e2 => exact fun T2 H2 F2 I2 L2 => q a e2 rfl T2 H2 F2 I2 L2
  | ex c e2 => exact fun T2 H2 F2 I2 L2 => h _ H2 (fr_untag (F.trans F2) (L.mono (Nat.le_succ t))) (untag_tm I2) (lt_untag L2)
theorem s_par {i j : Nat} {x y : Str} {a b : Expr} {ma mb : EM Rs} {px py pt : Pos} {kt k2 pt2} (ha : PE X a (tE X.K cx W ma)) (hb : PE X b (tE X.K cx W mb)) (hN : X.N.Nodup) (hw : swappedStores [.Tuple [.Name x px, .Name y py] kt pt] (.Tuple [a, b] k2 pt2) X.env = pure (some [x, y]))
    (hc : X.calm = true := by rfl) (hpi : prot i = false := by rfl) (hpj : prot j = false := by rfl) (hi : X.N[i]? = some x := by rfl) (hj : X.N[j]? = some y := by rfl) (hij : i ≠ j := by decide)
    (hx : X.env.scope.names.lookup x = some .local := by rfl) (hy : X.env.scope.names.lookup y = some .local := by rfl) (hs1 : starEach (a :: [b]) X.env = (false, eval a X.env) :: starEach [b] X.env := by rfl) (hs2 : starEach (b :: []) X.env = (false, eval b X.env) :: starEach [] X.env := by rfl)
    (hs : swapsWithSole [.Tuple [.Name x px, .Name y py] kt pt] (.Tuple [a, b] k2 pt2) pos.line X.env = pure false := by rfl) : PS X (.Assign [.Tuple [.Name x px, .Name y py] kt pt] (.Tuple [a, b] k2 pt2) pos) (tS X.K cx W prot (sPar i j ma mb)) :=
  PSimp (ps_par hc hN hi hj hij hx hy (pa_cons ha (pa_cons hb pa_nil hs2) hs1) hw hs) fun D σ H h => by
  obtain ⟨T, env, I, L, h⟩ := h
  refine ⟨T, env, 0, I, L, h.bd fun r1 e1 T1 H1 F1 I1 L1 h1 v hv => ?_⟩
  have h1w : Wk X.K cx W σ T H 0 (mb e1) (fun r2 e2 _ _ => Ws X.K cx W prot σ T H ((bd (hold r1) fun o1 => bd (hold r2) fun o2 => fun e => .ok .nx ((e.set i (some o1)).set j (some o2))) e2) D) := h1.bd fun r2 e2 T2 H2 F2 I2 L2 h2 => h2
  refine ⟨T1, e1, 1, I1, L1, Wk.up L h1w F1 fun r2 e2 q2 T2 H2 F2 I2 L2 w hw => ?_⟩
  unfold bd at h1
  rw [q2] at h1
  dsimp only at h1
  cases q3 : hold r1 e2 with
  | stuck => rw [q3] at h1; exact h1.elim
  | ex c e' => exact absurd q3 hold_noex
  | ok o1 e3 =>
    rw [q3] at h1
    dsimp only at h1
    obtain ⟨z1, F3, I3, L3, r3, n3⟩ := hold_ok (t := 0) (F1.trans F2) I2 L2 (rs_fr F2 hv) q3
    cases q4 : hold r2 e3 with
    | stuck => rw [q4] at h1; exact h1.elim
    | ex c e' => exact absurd q4 hold_noex
    | ok o2 e4 =>
      rw [q4] at h1
      obtain ⟨z2, F4, I4, L4, r4, n4⟩ := hold_ok (t := 1) F3 I3 L3 (rs_untag (n3 1) hw) q4
      have r3' : RepO X.K (untag z2 (untag z1 T2)) H2 o1 (.tm 0) [] v := RepO_map (fun b o t0 e => ⟨untag_none t0, e⟩) (fun b o p t0 e => ⟨untag_miss t0 (n4 0), e⟩) o1 [] v r3
      have r4' : RepO X.K (retag 0 i (untag z2 (untag z1 T2))) H2 o2 (.tm 1) [] w := RepO_map (fun b o t0 e => ⟨retag_none t0, e⟩) (fun b o p t0 e => ⟨retag_tm t0 (by decide), e⟩) o2 [] w r4
      have L5 : Lt 0 (retag 1 j (retag 0 i (untag z2 (untag z1 T2)))) := fun b k p e => by
        obtain ⟨e1, n1⟩ := retag_inv_tm e
        obtain ⟨e2, n2⟩ := retag_inv_tm e1
        have := L4 b k p e2
        omega
      refine ⟨v, w, rfl, h1 _ H2 _ (fr_retag (t := 1) (i := j) (fr_retag (t := 0) (i := i) F4 L) (L.mono (Nat.zero_le 1))) ((I4.setO r3').setO r4') L5 (Pt.trans (Pt.set hpi) (Pt.set hpj))⟩
end
end MI
/-! MiStmt2: if, return, raise, lists changed in place, the rule of a function. -/
namespace MI
open PySem L2
section
variable {X : Cx} {cx : Nat → Addr} {W : WX} {prot : Nat → Bool} {st : Stmt} {rest : List Stmt} {m u : SM} {e : Expr} {me mb : EM Rs} {tc : EM Bool} {pos : Pos}
def sIf (c : EM Bool) (a b : SM) : SM := bd c fun k => if k then a else b
theorem s_if {c : Expr} {a b : List Stmt} (hc : PT X c (tT X.K cx W tc)) (ha : PSs X a (tS X.K cx W prot m)) (hb : PSs X b (tS X.K cx W prot u)) : PS X (.If c a b pos) (tS X.K cx W prot (sIf tc m u)) := PSimp (ps_if hc ha hb) fun D σ H h => by
  obtain ⟨T, env, I, L, h⟩ := h
  refine ⟨T, env, 0, I, L, h.bd fun k e1 T1 H1 F1 I1 L1 h1 => ?_⟩
  obtain ⟨F1', I1', L1'⟩ := clean L F1 I1 L1
  cases k with
  | true => exact ⟨_, e1, I1', L1', Ws.step h1 F1' Pt.refl⟩
  | false => exact ⟨_, e1, I1', L1', Ws.step h1 F1' Pt.refl⟩
def sRet (m : EM Rs) : SM := bd m fun r => bd (hold r) fun o => ret (.rt o)
theorem s_ret (he : PE X e (tE X.K cx W me)) : PS X (.Return (some e) pos) (tS X.K cx W prot (sRet me)) := PSimp (ps_ret he) fun D σ H h => by
  obtain ⟨T, env, I, L, h⟩ := h
  refine ⟨T, env, 0, I, L, h.bd fun r e1 T1 H1 F1 I1 L1 h1 v hv => ?_⟩
  unfold bd at h1
  cases q : hold r e1 with
  | stuck => rw [q] at h1; exact h1.elim
  | ex c e' => exact absurd q hold_noex
  | ok o e2 =>
    rw [q] at h1
    obtain ⟨z, F2, I2, L2, r2, _⟩ := hold_ok F1 I1 L1 hv q
    exact h1 v _ H1 σ F2 I2 L2 Pt.refl r2
theorem s_retN : PS X (.Return none pos) (tS X.K cx W prot (ret (.rt (.s .non)))) := PSimp ps_retN fun D σ H h => by
  obtain ⟨T, env, I, L, h⟩ := h
  exact h .non T H σ Fr.refl I (L.mono (Nat.zero_le 1)) Pt.refl (by simp only [RepO, RepD])
def sExpr (m : EM Rs) : SM := bd m fun _ => ret .nx
theorem s_expr (he : PE X e (tE X.K cx W me)) (hs : swapsWith e none pos.line X.env = pure false := by rfl) : PS X (.Expr e pos) (tS X.K cx W prot (sExpr me)) := PSimp (ps_expr he hs) fun D σ H h => by
  obtain ⟨T, env, I, L, h⟩ := h
  refine ⟨T, env, 0, I, L, h.bd fun r e1 T1 H1 F1 I1 L1 h1 v hv => ?_⟩
  obtain ⟨F1', I1', L1'⟩ := clean L F1 I1 L1
  exact h1 _ H1 σ F1' I1' L1' Pt.refl
def sRaise (c : Nat) : SM := fun e => .ex c e
/-- X() -/
theorem pmk_own0 {C : Addr} {bmB : List Value} {B newId initId : String} {x : Str} {p pos : Pos} (F : ExcBaseFacts B newId initId bmB) (q : PySem.W.excIn X.K C bmB newId = true) (gC : X.mg x = some (.ref C)) (kC : PySem.W.keepIn X.K (.ref C) = true) (r : Raises X (.ref C)) (hg : Gl X x)
    (hdb : (x == ("__debug__" : Str)) = false := by decide) : PMk X (.Call (.Name x p) [] [] pos) (fun _ H Q => Q (.ref C) none H) := by
  intro pins s σ H Q I h
  refine wpAny_Call_Name_kw (ld_glob I hg gC ?_ hdb)
  refine PySem.W.callWith_K0 I.kIn kC ?_
  show wpAny _ _ (call (.ref C) []) _ _ _
  obtain ⟨bm, N, nm, qn, bs, hdct, sn, sub, ab, col, dd, k0, k1, k2, k3, k5, mN, hC, hN, hni, T⟩ := exc_obj I.kIn q
  obtain ⟨hp, g, d, tk, os⟩ := s
  exact wpAny_call_exc_subT F T hC hN hni (fun h' e hm => mk_of I hm r h (I.hok.gone hm.new)) (by rw [sizeLine_eq]; exact Nat.zero_le _)
/-- what is known of an own exception class -/
structure XF (K : PySem.W.Frag) (mg : Str → Option Value) (cx : Nat → Addr) (c : Nat) (x : Str) : Prop where
  ex : PySem.W.excIn K (cx c) [.type "ValueError", .type "Exception", .type "BaseException", .type "object"] "ValueError.__new__" = true
  gl : mg x = some (.ref (cx c))
  kp : PySem.W.keepIn K (.ref (cx c)) = true
  sub : PySem.W.subIn K (.ref (cx c)) (.type "BaseException") = some true
  ty : PySem.W.typeIn K (.ref (cx c)) = some (.type "type")
theorem s_raise {c : Nat} {x : Str} {p pos2 : Pos} (F : XF X.K X.mg cx c x) (tk : Takes X W) (hc : X.calm = true := by rfl) (hg : Gl X x := by rfl) (hdb : (x == ("__debug__" : Str)) = false := by decide) :
    PS X (.Raise (some (.Call (.Name x p) [] [] pos)) none pos2) (tS X.K cx W prot (sRaise c)) := PSimp (ps_raise hc tk (pmk_own0 PySem.F.excBase_ValueError F.ex F.gl F.kp (raises_own F.sub F.ty) hg hdb)) fun D σ H h => by
  obtain ⟨T, env, I, L, h⟩ := h
  exact h T H σ Fr.refl I (L.mono (Nat.zero_le 1)) Pt.refl
end

/-! ### a list in place -/
section
variable {K : PySem.W.Frag} {σ : L2.St} {T : TM} {H : Hp} {env : Env} {i : Nat} {os : List O}
/-- nodes elsewhere do not mind -/
theorem RepO_upd {a : Addr} {r0 : Rt} {p0 : List Nat} {o0 : HO} (ha : T a = some (r0, p0)) {o : O} {r : Rt} {p : List Nat} {v : V} (hr : r ≠ r0) (h : RepO K T H o r p v) : RepO K T (upd H a o0) o r p v :=
  RepO_map (fun b o t e => by
    have nb : b ≠ a := fun z => by rw [z, ha] at t; cases t
    exact ⟨t, by rw [upd_ne nb]; exact e⟩) (fun b o p t e => by
    have nb : b ≠ a := fun z => by rw [z, ha] at t; cases t; exact hr rfl
    exact ⟨t, by rw [upd_ne nb]; exact e⟩) o p v h
mutual
theorem RepO_updP {a : Addr} {r : Rt} {o0 : HO} (ha : T a = some (r, [])) : ∀ (o : O) (p : List Nat) (v : V), p ≠ [] → RepO K T H o r p v → RepO K T (upd H a o0) o r p v
  | .s d, _, _, _, h => by
    simp only [RepO] at h ⊢
    refine RepD_mono (fun b o e => ?_) d _ h
    obtain ⟨t, e⟩ := S_some.mp e
    have nb : b ≠ a := fun z => by rw [z, ha] at t; cases t
    exact S_some.mpr ⟨t, by rw [upd_ne nb]; exact e⟩
  | .l os, p, _, hp, h => by
    simp only [RepO] at h ⊢
    obtain ⟨b, vs, e, t, q, z⟩ := h
    have nb : b ≠ a := fun z => by rw [z, ha] at t; cases t; exact hp rfl
    exact ⟨b, vs, e, t, by rw [upd_ne nb]; exact q, RepOs_updP ha os p _ vs z⟩
theorem RepOs_updP {a : Addr} {r : Rt} {o0 : HO} (ha : T a = some (r, [])) : ∀ (os : List O) (p : List Nat) (j : Nat) (vs : List V), RepOs K T H os r p j vs → RepOs K T (upd H a o0) os r p j vs
  | [], _, _, _, h => by simpa only [RepOs] using h
  | o :: os, p, j, _, h => by
    simp only [RepOs] at h ⊢
    obtain ⟨v, ws, e, q, z⟩ := h
    exact ⟨v, ws, e, RepO_updP ha o _ _ (by simp) q, RepOs_updP ha os p _ _ z⟩
end
theorem ei_write (I : EI K T H env σ) (e : (env[i]?).join = some (.l os)) : ∃ a vs, σ[i]? = some (some (.ref a)) ∧ H a = some (.lst vs) ∧ RepOs K T H os (.sl i) [] 0 vs ∧
    ∀ os' vs', RepOs K T H os' (.sl i) [] 0 vs' → EI K T (upd H a (.lst vs')) (env.set i (some (.l os'))) σ ∧ Fr T T H (upd H a (.lst vs')) := by
  have e : env[i]? = some (some (.l os)) := by simpa only [Option.join_eq_some_iff] using e
  obtain ⟨v, e1, r⟩ := I.at_ i _ e
  simp only [RepO] at r
  obtain ⟨a, vs, rfl, t, q, z⟩ := r
  refine ⟨a, vs, e1, q, z, fun os' vs' r' => ⟨⟨by rw [List.length_set]; exact I.len, fun j u h => ?_⟩, fun b o eb k => ?_, fun b p h => h⟩⟩
  · by_cases hj : i = j
    · subst hj
      rw [List.getElem?_set_self (List.getElem?_eq_some_iff.mp e).1] at h
      cases h
      refine ⟨_, e1, ?_⟩
      simp only [RepO]
      exact ⟨a, vs', rfl, t, upd_same, RepOs_updP t os' _ _ _ r'⟩
    · rw [List.getElem?_set_ne hj] at h
      obtain ⟨w, e2, r2⟩ := I.at_ j u h
      exact ⟨w, e2, RepO_upd t (by intro z; cases z; exact hj rfl) r2⟩
  · have nb : b ≠ a := fun z => by
      rw [z, t] at k
      rcases k with k | ⟨p, k⟩ | ⟨i, p, k⟩ <;> cases k
    exact ⟨by rw [upd_ne nb]; exact eb, rfl⟩
theorem RepOs_app {r : Rt} {p : List Nat} : ∀ {os : List O} {j : Nat} {vs : List V} {ds : List D} {ws : List V}, RepOs K T H os r p j vs → RepDs K (S T H) ds ws → RepOs K T H (os ++ ds.map .s) r p j (vs ++ ws)
  | [], j, vs, ds, ws, h, g => by
    simp only [RepOs] at h
    subst h
    exact RepDs_os g
  | o :: os, j, vs, ds, ws, h, g => by
    simp only [RepOs] at h
    obtain ⟨v, us, rfl, q, z⟩ := h
    simp only [List.cons_append, RepOs]
    exact ⟨v, _, rfl, q, RepOs_app z g⟩
theorem RepOs_set {r : Rt} {p : List Nat} {d : D} {v : V} (hd : RepD K (S T H) d v) : ∀ {os : List O} {j : Nat} {vs : List V} (k : Nat), RepOs K T H os r p j vs → RepOs K T H (os.set k (.s d)) r p j (vs.set k v)
  | [], j, vs, k, h => by simp only [RepOs] at h; subst h; simp [RepOs]
  | o :: os, j, vs, 0, h => by
    simp only [RepOs] at h
    obtain ⟨w, us, rfl, q, z⟩ := h
    simp only [List.set_cons_zero, RepOs]
    exact ⟨v, _, rfl, by simpa only [RepO] using hd, z⟩
  | o :: os, j, vs, k + 1, h => by
    simp only [RepOs] at h
    obtain ⟨w, us, rfl, q, z⟩ := h
    simp only [List.set_cons_succ, RepOs]
    exact ⟨w, _, rfl, q, RepOs_set hd k z⟩
/-- all items shared -/
def allS : List O → Option (List D)
  | [] => some []
  | .s d :: os => match allS os with
    | some ds => some (d :: ds)
    | none => none
  | .l _ :: _ => none
theorem allS_map : ∀ {os : List O} {ds : List D}, allS os = some ds → os = ds.map .s
  | [], ds, h => by simp only [allS, Option.some.injEq] at h; subst h; rfl
  | .s d :: os, ds, h => by
    simp only [allS] at h
    split at h
    · rename_i es q
      simp only [Option.some.injEq] at h
      subst h
      rw [List.map_cons, allS_map q]
    · cases h
  | .l _ :: _, ds, h => by simp [allS] at h
theorem allS_of (ds : List D) : allS (ds.map .s) = some ds := by
  induction ds with
  | nil => rfl
  | cons d ds ih => simp only [List.map_cons, allS, ih]
theorem RepOs_ds {r : Rt} {p : List Nat} : ∀ {ds : List D} {j : Nat} {vs : List V}, RepOs K T H (ds.map .s) r p j vs → RepDs K (S T H) ds vs
  | [], j, vs, h => by simpa only [List.map_nil, RepOs, RepDs] using h
  | d :: ds, j, vs, h => by
    simp only [List.map_cons, RepOs] at h
    obtain ⟨v, ws, rfl, q, z⟩ := h
    simp only [RepDs]
    exact ⟨v, ws, rfl, by simpa only [RepO] using q, RepOs_ds z⟩
end
section
variable {X : Cx} {cx : Nat → Addr} {W : WX} {prot : Nat → Bool} {e : Expr} {me mb : EM Rs} {pos : Pos}
/-- a method that changes a name's own list: what it gives, the items behind it -/
def eMut (f : List O → List D → Option (D × List O)) (i : Nat) (ms : List (EM Rs)) : EM Rs := fun e0 => match (e0[i]?).join with
  | some (.l _) => (bd (evs ms) fun rs => bd (gvs rs) fun ds => fun e => match (e[i]?).join with
    | some (.l os) => match f os ds with
      | some (d, os') => .ok (.v (.s d)) (e.set i (some (.l os')))
      | none => .stuck
    | _ => .stuck) e0
  | _ => .stuck
def MutOk (K : PySem.W.Frag) (f : List O → List D → Option (D × List O)) (r : V → List V → Hp → VK → Prop) : Prop := ∀ (T : TM) (H : Hp) (i : Nat) (os : List O) (vs : List V) (ds : List D) (ws : List V) (a : Addr) (d : D) (os' : List O) (Q : VK),
  RepOs K T H os (.sl i) [] 0 vs → H a = some (.lst vs) → RepDs K (S T H) ds ws → f os ds = some (d, os') → (∀ u vs', RepD K (S T H) d u → RepOs K T H os' (.sl i) [] 0 vs' → Q u (upd H a (.lst vs'))) → r (.ref a) ws H Q
theorem mut_go {f : List O → List D → Option (D × List O)} {r : V → List V → Hp → VK → Prop} (hf : MutOk X.K f r) {i : Nat} {ms : List (EM Rs)} {σ : L2.St} {H : Hp} {Q : VK} (h : tE X.K cx W (eMut f i ms) σ H Q) : tBM X.K "list" r (tVar i) (tA X.K cx W (evs ms)) σ H Q := by
  obtain ⟨T, env, t, I, L, h⟩ := h
  unfold eMut at h
  cases q0 : (env[i]?).join with
  | none => rw [q0] at h; exact h.elim
  | some o0 =>
    cases o0 with
    | s d => rw [q0] at h; exact h.elim
    | l os0 =>
      rw [q0] at h
      dsimp only at h
      obtain ⟨a0, vs0, s0, h0, _, _⟩ := ei_write I q0
      refine ⟨.ref a0, s0, .inl ⟨rfl, vs0, .of h0⟩, T, env, t, I, L, ?_⟩
      unfold Wk bd at h
      cases ee : evs ms env with
      | stuck => rw [ee] at h; exact h.elim
      | ex c e' => rw [ee] at h; exact h
      | ok rs e1 =>
        rw [ee] at h
        dsimp only at h
        obtain ⟨op1, ln⟩ := evs_opn ee
        intro T1 H1 F1 I1 L1 ws hws
        cases e2 : gvs rs e1 with
        | stuck => rw [e2] at h; exact h.elim
        | ex c e' => exact absurd e2 gvs_noex
        | ok ds e3 =>
          rw [e2] at h
          dsimp only at h
          obtain ⟨T2, F2, I2, L2, rds, _⟩ := gvs_ok L op1 F1 I1 L1 hws e2
          cases q1 : (e3[i]?).join with
          | none => rw [q1] at h; exact h.elim
          | some o1 =>
            cases o1 with
            | s d => rw [q1] at h; exact h.elim
            | l os =>
              rw [q1] at h
              dsimp only at h
              cases q2 : f os ds with
              | none => rw [q2] at h; exact h.elim
              | some z =>
                obtain ⟨d, os'⟩ := z
                rw [q2] at h
                dsimp only at h
                obtain ⟨a, vs, s1, h1, ro, wr⟩ := ei_write I2 q1
                rw [s0] at s1
                cases s1
                refine hf T2 H1 i os vs ds ws a0 d os' Q ro h1 rds q2 fun u vs' ru ro' => ?_
                obtain ⟨I3, F3⟩ := wr os' vs' ro'
                exact h T2 _ (F2.trans F3) I3 L2 u (by simp only [RsRep, RepO]; exact F3.d ru)
theorem m_mut {f : List O → List D → Option (D × List O)} {r : V → List V → Hp → VK → Prop} {i : Nat} {x : Str} {es : List Expr} {ms : List (EM Rs)} {id : String} {name : Str} {p apos cpos : Pos} (hf : MutOk X.K f r)
    (slot : PySem.Slot "list" name id) (hty : typeOf (.builtin id) = pure (.type "method_descriptor")) (hm : MtR X id r) (ha : PA X (e :: es) (tA X.K cx W (evs ms)))
    (hN : X.N[i]? = some x := by rfl) (hv : Vis X.env.scope x := by first | exact Or.inl rfl | exact Or.inr (Or.inl rfl) | exact Or.inr (Or.inr rfl)) (hd : (x == ("__debug__" : Str)) = false := by decide) (hcd : (x == ("__classdict__" : Str)) = false := by decide)
    (hbase : attributeBase (.Name x p) name X.env (eval (.Name x p) X.env) = eval (.Name x p) X.env := by rfl)
    (hfew : ((PySem.backTo cpos (starEach (e :: es) X.env)).all (fun x => !x.1) && (backToKw cpos (keywordEach [] X.env)).all (fun x => x.1.isSome)
      && decide ((e :: es).length + ([] : List Keyword).length + (if ([] : List Keyword).isEmpty then 0 else 1) < 30)) = true := by rfl)
    (hline : (apos.endLine == cpos.line) = true := by rfl) (hs : starEach (e :: es) X.env = (false, eval e X.env) :: starEach es X.env := by rfl) (hplain : (PySem.backTo cpos (starEach es X.env)).any (·.1) = false := by rfl) :
    PE X (.Call (.Attribute (.Name x p) name apos) (e :: es) [] cpos) (tE X.K cx W (eMut f i ms)) :=
  PEimp (pe_bm PySem.F.plainAttrs_list slot hty hm (pe_var hN hv hd hcd) ha hbase hfew hline hs hplain) fun _ _ _ h => mut_go hf h
/-- xs[ix] = e, xs a name -/
def sSetIx (i : Nat) (ix m : EM Rs) : SM := bd m fun r => bd (gv r) fun d => fun e0 => match (e0[i]?).join with
  | some _ => (bd ix fun r2 => fun e => match look e r2 with
    | some (.s (.int k)) => match (e[i]?).join with
      | some (.l os) => match ixN os.length k with
        | some j => .ok .nx (e.set i (some (.l (os.set j (.s d)))))
        | none => .stuck
      | _ => .stuck
    | _ => .stuck) e0
  | none => .stuck
theorem s_setix {i : Nat} {x : Str} {ix : Expr} {mi : EM Rs} {p p2 : Pos} (he : PE X e (tE X.K cx W me)) (hi : PE X ix (tE X.K cx W mi))
    (hN : X.N[i]? = some x := by rfl) (hv : Vis X.env.scope x := by first | exact Or.inl rfl | exact Or.inr (Or.inl rfl) | exact Or.inr (Or.inr rfl)) (hd : (x == ("__debug__" : Str)) = false := by decide) (hcd : (x == ("__classdict__" : Str)) = false := by decide)
    (ha : ∀ v, assign (.Subscript (.Name x p) ix p2) X.env v = (do
      let ov ← holding [v] (eval (.Name x p) X.env)
      let iv ← holding [v, ov] (eval ix X.env)
      standAt p2
      holding [v, ov, iv] (setItem ov iv v)
      release [v, ov, iv] []) := by intro _; rfl)
    (hs : swapsWithSole [.Subscript (.Name x p) ix p2] e pos.line X.env = pure false := by rfl) (hw : swappedStores [.Subscript (.Name x p) ix p2] e X.env = pure none := by rfl)
    (h1 : (assignEach [.Subscript (.Name x p) ix p2] X.env).map (·.2) = [assign (.Subscript (.Name x p) ix p2) X.env] := by rfl) :
    PS X (.Assign [.Subscript (.Name x p) ix p2] e pos) (tS X.K cx W prot (sSetIx i mi me)) := PSimp (ps_asg he (pg_sub (pe_var hN hv hd hcd) hi set_list ha) hs hw h1) fun D σ H h => by
  obtain ⟨T, env, I, L, h⟩ := h
  refine ⟨T, env, 0, I, L, h.bd fun r e1 T1 H1 F1 I1 L1 h1 v hv => ?_⟩
  unfold bd at h1
  cases q : gv r e1 with
  | stuck => rw [q] at h1; exact h1.elim
  | ex c e' => exact absurd q gv_noex
  | ok d e2 =>
    rw [q] at h1
    dsimp only at h1
    obtain ⟨z, F2, I2, L2, rd⟩ := gv_ok L F1 I1 L1 hv q
    have L2' : Lt 0 (untag (isTm 0) (untag z T1)) := lt_untag L2
    have F2' := fr_untag F2 L
    have I2' : EI X.K (untag (isTm 0) (untag z T1)) H1 e2 σ := untag_tm I2
    have rd' : RepD X.K (S (untag (isTm 0) (untag z T1)) H1) d v := d_untag rd
    cases q0 : (e2[i]?).join with
    | none => rw [q0] at h1; exact h1.elim
    | some o0 =>
    rw [q0] at h1
    dsimp only at h1
    obtain ⟨w, sw, _⟩ := I2.at_ i o0 (by simpa only [Option.join_eq_some_iff] using q0)
    refine ⟨w, sw, _, e2, 0, I2', L2', Wk.step (h1.bd fun r2 e3 T3 H3 F3 I3 L3 h3 => fun (T0 : TM) (Fx : Fr T0 T3 H1 H3) => h3) F2' |>.mono fun r2 e3 T3 H3 F3 I3 L3 h3 u hu => ?_⟩
    have h3 := h3 _ F3
    split at h3
    · rename_i k q4
      split at h3
      · rename_i os q5
        split at h3
        · rename_i j q6
          obtain ⟨a, vs, s1, h4, ro, wr⟩ := ei_write I3 q5
          rw [sw] at s1
          cases s1
          obtain ⟨rt, p, rk⟩ := look_rep I3 hu q4
          simp only [RepO, RepD] at rk
          subst rk
          refine ⟨a, vs, k, j, rfl, rfl, h4, by rw [RepOs_len ro]; exact q6, ?_⟩
          obtain ⟨I4, F4⟩ := wr (os.set j (.s d)) (vs.set j v) (RepOs_set (F3.d rd') j ro)
          have := clean (L := L2') (F := F3.trans F4) I4 L3
          exact h3 _ _ σ (F2'.trans this.1) this.2.1 this.2.2 Pt.refl
        · exact h3.elim
      · exact h3.elim
    · exact h3.elim
end
end MI
/-! MiLoop: what is walked, targets, for, while, comprehensions. -/
namespace MI
open PySem L2 RZ

/-! ### what is walked -/
/-- what is shared stays shared -/
def Sg (T T' : TM) (H H' : Hp) : Prop := ∀ b o, S T H b = some o → S T' H' b = some o
theorem Sg.sh {T T' : TM} {H H' : Hp} (f : Sg T T' H H') {b : Addr} {o : HO} (h : S T H b = some o) : S T' H' b = some o := f b o h
theorem Sg.d {K : PySem.W.Frag} {T T' : TM} {H H' : Hp} (f : Sg T T' H H') {d : D} {v : V} (h : RepD K (S T H) d v) : RepD K (S T' H') d v := RepD_mono f d v h
theorem Sg.trans {T T1 T2 : TM} {H H1 H2 : Hp} (a : Sg T T1 H H1) (b : Sg T1 T2 H1 H2) : Sg T T2 H H2 := fun c o h => b c o (a c o h)
theorem Fr.sg {T T' : TM} {H H' : Hp} (f : Fr T T' H H') : Sg T T' H H' := fun _ _ h => f.sh h
theorem Sg.untag {T : TM} {H : Hp} {q : Rt → Bool} : Sg T (untag q T) H H := fun b o h => S_some.mpr ⟨untag_none (S_some.mp h).1, (S_some.mp h).2⟩
def ItOk (K : PySem.W.Frag) (J : It) (T : TM) (H : Hp) (ds : List D) : Prop := ∀ T' H', Sg T T' H H' → ∀ i, (ds.length ≤ i → J.stop i H') ∧
  ∀ d, ds[i]? = some d → J.go i H' ∧ ∀ x H'', J.yld i H' x H'' → ∃ T'', Gr T' T'' H' H'' ∧ (∀ t, Lt t T' → Lt t T'') ∧ RepD K (S T'' H'') d x
def tI (K : PySem.W.Frag) (cx : Nat → Addr) (W : WX) (m : EM (List D)) : TI := fun σ H R => ∃ T env t, EI K T H env σ ∧ Lt t T ∧ Wk K cx W σ T H t (m env) (fun ds _ T' H' => ∀ J, ItOk K J T' H' ds → R J H')
def itemsOf : D → Option (List D)
  | .tup ds => some ds
  | .lst ds => some ds
  | .scr ds => some ds
  | .str x => some (x.map fun c => .str [c])
  | _ => none
def itV (m : EM Rs) : EM (List D) := bd m fun r => bd (gv r) fun d => lift itemsOf d
theorem inj_of {K : PySem.W.Frag} {X : Cx} (a : Addr) : True := trivial
section
variable {K : PySem.W.Frag} {T : TM} {H : Hp}
theorem it_lst {a : Addr} {vs : List V} {ds : List D} (h : S T H a = some (.lst vs)) (r : RepDs K (S T H) ds vs) : ItOk K (Itl K a) T H ds := fun T' H' F i => by
  have q : H' a = some (.lst vs) := (S_some.mp (F.sh h)).2
  have ln := RepDs_len r
  refine ⟨fun l => ⟨vs, .of q, by omega⟩, fun d e => ?_⟩
  obtain ⟨v, ev, rd⟩ := RepDs_get r e
  refine ⟨⟨vs, v, .of q, ev⟩, fun x H'' y => ?_⟩
  obtain ⟨rfl, y⟩ := y
  have := (y vs (.of q)).symm.trans ev
  cases this
  exact ⟨T', Gr.refl, fun _ z => z, F.d rd⟩
theorem it_scr {a : Addr} {vs : List V} {ds : List D} (h : SqL K (S T H) a vs) (r : RepDs K (S T H) ds vs) : ItOk K (Itl K a) T H ds := fun T' H' F i => by
  have q : SqL K H' a vs := SqL_mono (fun _ _ e => (S_some.mp e).2) (SqL_mono (fun _ _ e => F.sh e) h)
  have ln := RepDs_len r
  refine ⟨fun l => ⟨vs, q, by omega⟩, fun d e => ?_⟩
  obtain ⟨v, ev, rd⟩ := RepDs_get r e
  refine ⟨⟨vs, v, q, ev⟩, fun x H'' y => ?_⟩
  obtain ⟨rfl, y⟩ := y
  have := (y vs q).symm.trans ev
  cases this
  exact ⟨T', Gr.refl, fun _ z => z, F.d rd⟩
theorem it_tup {a : Addr} {vs : List V} {ds : List D} (h : SqT K (S T H) a vs) (r : RepDs K (S T H) ds vs) : ItOk K (Itt K a) T H ds := fun T' H' F i => by
  have q : SqT K H' a vs := SqT_mono (fun _ _ e => (S_some.mp e).2) (SqT_mono (fun _ _ e => F.sh e) h)
  have ln := RepDs_len r
  refine ⟨fun l => ⟨vs, q, by omega⟩, fun d e => ?_⟩
  obtain ⟨v, ev, rd⟩ := RepDs_get r e
  refine ⟨⟨vs, v, q, ev⟩, fun x H'' y => ?_⟩
  obtain ⟨rfl, y⟩ := y
  have := (y vs q).symm.trans ev
  cases this
  exact ⟨T', Gr.refl, fun _ z => z, F.d rd⟩
theorem it_str {x : List Nat} (ok : SOk x) : ItOk K (Its ⟨x.toArray⟩) T H (x.map fun c => .str [c]) := fun T' H' F i => by
  refine ⟨fun l => by simpa [Its] using l, fun d e => ?_⟩
  rw [List.getElem?_map] at e
  cases ec : x[i]? with
  | none => rw [ec] at e; cases e
  | some c =>
    rw [ec] at e
    simp only [Option.map_some, Option.some.injEq] at e
    subst e
    refine ⟨by simpa [Its] using (List.getElem?_eq_some_iff.mp ec).1, fun v H'' y => ?_⟩
    obtain ⟨rfl, c', ec', rfl⟩ := y
    have : c' = c := by
      have z : x[i]? = some c' := by simpa using ec'
      rw [ec] at z
      exact (Option.some.inj z).symm
    subst this
    refine ⟨T', Gr.refl, fun _ z => z, ?_⟩
    simp only [RepD]
    refine ⟨rfl, by simp, fun z hz => ?_⟩
    simp only [List.mem_singleton] at hz
    subst hz
    exact ok.2 _ (List.mem_of_getElem? ec)
theorem it_rng {lo : Int} {n : Nat} : ItOk K (Itr lo n) T H ((List.range n).map fun i : Nat => .int (lo + (i : Int))) := fun T' H' F i => by
  refine ⟨fun l => by simpa [Itr] using l, fun d e => ?_⟩
  rw [List.getElem?_map] at e
  by_cases hi : i < n
  · rw [List.getElem?_range hi] at e
    simp only [Option.map_some, Option.some.injEq] at e
    subst e
    refine ⟨hi, fun v H'' y => ?_⟩
    obtain ⟨rfl, rfl⟩ := y
    exact ⟨T', Gr.refl, fun _ z => z, by simp only [RepD]⟩
  · rw [List.getElem?_eq_none (by simpa using hi)] at e
    cases e
theorem new_tup {T' : TM} {H' : Hp} {p : Addr} {vs : List V} {ds : List D} (hp : H' p = none) (r : RepDs K (S T' H') ds vs) : Gr T' (put T' p none) H' (upd H' p (.tup vs)) ∧ (∀ t, Lt t T' → Lt t (put T' p none)) ∧ RepD K (S (put T' p none) (upd H' p (.tup vs))) (.tup ds) (.ref p) := by
  refine ⟨Gr.new hp (by simp), fun t l => l.put (by simp), ?_⟩
  simp only [RepD]
  refine ⟨p, vs, rfl, .of (S_some.mpr ⟨put_same, upd_same⟩), RepDs_mono (fun b o e => ?_) ds vs r⟩
  obtain ⟨e1, e2⟩ := S_some.mp e
  exact S_some.mpr ⟨by rw [put_ne (ne_of_none e2 hp)]; exact e1, by rw [upd_ne (ne_of_none e2 hp)]; exact e2⟩
def enumD (ds : List D) : List D := ds.zipIdx.map fun p => .tup [.int (p.2 : Int), p.1]
theorem it_enum {a : Addr} {vs : List V} {ds : List D} (h : SqL K (S T H) a vs) (r : RepDs K (S T H) ds vs) : ItOk K (Ite K a) T H (enumD ds) := fun T' H' F i => by
  have q : SqL K H' a vs := SqL_mono (fun _ _ e => (S_some.mp e).2) (SqL_mono (fun _ _ e => F.sh e) h)
  have ln := RepDs_len r
  refine ⟨fun l => ⟨vs, q, by simpa [enumD, ln] using l⟩, fun d e => ?_⟩
  unfold enumD at e
  rw [List.getElem?_map, List.getElem?_zipIdx] at e
  cases ed : ds[i]? with
  | none => rw [ed] at e; cases e
  | some d0 =>
    rw [ed] at e
    simp only [Option.map_some, Nat.zero_add, Option.some.injEq] at e
    subst e
    obtain ⟨v, ev, rd⟩ := RepDs_get r ed
    refine ⟨⟨vs, v, q, ev⟩, fun x H'' y => ?_⟩
    obtain ⟨p, x', rfl, hp, rfl, y⟩ := y
    have ex : x' = v := Option.some.inj ((y vs q).symm.trans ev)
    subst ex
    obtain ⟨g, l, z⟩ := new_tup (K := K) (ds := [.int (i : Int), d0]) (vs := [.int (i : Nat), x']) hp (by
      simp only [RepDs, RepD]
      exact ⟨_, _, rfl, rfl, _, _, rfl, F.d rd, rfl⟩)
    exact ⟨_, g, l, z⟩
def zipD (ds es : List D) : List D := (ds.zip es).map fun p => .tup [p.1, p.2]
theorem zip_get {ds es : List D} {i : Nat} {d : D} (e : (zipD ds es)[i]? = some d) : ∃ a b, ds[i]? = some a ∧ es[i]? = some b ∧ d = .tup [a, b] := by
  unfold zipD at e
  rw [List.getElem?_map] at e
  cases ez : (ds.zip es)[i]? with
  | none => rw [ez] at e; cases e
  | some z =>
    rw [ez] at e
    simp only [Option.map_some, Option.some.injEq] at e
    obtain ⟨h1, h2⟩ := List.getElem?_zip_eq_some.mp ez
    exact ⟨z.1, z.2, h1, h2, e.symm⟩
theorem it_zipL {a b : Addr} {vs ws : List V} {ds es : List D} (h : SqL K (S T H) a vs) (r : RepDs K (S T H) ds vs) (h2 : SqL K (S T H) b ws) (r2 : RepDs K (S T H) es ws) : ItOk K (Itz K a b) T H (zipD ds es) := fun T' H' F i => by
  have q : SqL K H' a vs := SqL_mono (fun _ _ e => (S_some.mp e).2) (SqL_mono (fun _ _ e => F.sh e) h)
  have q2 : SqL K H' b ws := SqL_mono (fun _ _ e => (S_some.mp e).2) (SqL_mono (fun _ _ e => F.sh e) h2)
  have ln := RepDs_len r
  have ln2 := RepDs_len r2
  refine ⟨fun l => ⟨vs, ws, q, q2, by simp [zipD] at l; omega⟩, fun d e => ?_⟩
  obtain ⟨d1, d2, e1, e2, rfl⟩ := zip_get e
  obtain ⟨v, ev, rd⟩ := RepDs_get r e1
  obtain ⟨w, ew, rd2⟩ := RepDs_get r2 e2
  refine ⟨⟨vs, ws, v, w, q, q2, ev, ew⟩, fun x H'' y => ?_⟩
  obtain ⟨p, x1, x2, rfl, hp, rfl, y1, y2⟩ := y
  have z1 : x1 = v := Option.some.inj ((y1 vs q).symm.trans ev)
  have z2 : x2 = w := Option.some.inj ((y2 ws q2).symm.trans ew)
  subst z1
  subst z2
  obtain ⟨g, l, z⟩ := new_tup (K := K) (ds := [d1, d2]) (vs := [x1, x2]) hp (by
    simp only [RepDs]
    exact ⟨_, _, rfl, F.d rd, _, _, rfl, F.d rd2, rfl⟩)
  exact ⟨_, g, l, z⟩
theorem it_zipT {a b : Addr} {vs ws : List V} {ds es : List D} (h : SqT K (S T H) a vs) (r : RepDs K (S T H) ds vs) (h2 : SqT K (S T H) b ws) (r2 : RepDs K (S T H) es ws) : ItOk K (ItzT K a b) T H (zipD ds es) := fun T' H' F i => by
  have q : SqT K H' a vs := SqT_mono (fun _ _ e => (S_some.mp e).2) (SqT_mono (fun _ _ e => F.sh e) h)
  have q2 : SqT K H' b ws := SqT_mono (fun _ _ e => (S_some.mp e).2) (SqT_mono (fun _ _ e => F.sh e) h2)
  have ln := RepDs_len r
  have ln2 := RepDs_len r2
  refine ⟨fun l => ⟨vs, ws, q, q2, by simp [zipD] at l; omega⟩, fun d e => ?_⟩
  obtain ⟨d1, d2, e1, e2, rfl⟩ := zip_get e
  obtain ⟨v, ev, rd⟩ := RepDs_get r e1
  obtain ⟨w, ew, rd2⟩ := RepDs_get r2 e2
  refine ⟨⟨vs, ws, v, w, q, q2, ev, ew⟩, fun x H'' y => ?_⟩
  obtain ⟨p, x1, x2, rfl, hp, rfl, y1, y2⟩ := y
  have z1 : x1 = v := Option.some.inj ((y1 vs q).symm.trans ev)
  have z2 : x2 = w := Option.some.inj ((y2 ws q2).symm.trans ew)
  subst z1
  subst z2
  obtain ⟨g, l, z⟩ := new_tup (K := K) (ds := [d1, d2]) (vs := [x1, x2]) hp (by
    simp only [RepDs]
    exact ⟨_, _, rfl, F.d rd, _, _, rfl, F.d rd2, rfl⟩)
  exact ⟨_, g, l, z⟩
end
section
variable {X : Cx} {cx : Nat → Addr} {W : WX} {tg l : Expr} {me ma mb : EM Rs} {pos : Pos}
/-- over a value: a list, a tuple, a text -/
theorem i_val (hl : PE X l (tE X.K cx W me)) : PI X tg l (tI X.K cx W (itV me)) := ⟨fun pins s σ H R I h => by
  obtain ⟨T, env, t, I0, L, h⟩ := h
  unfold itV bd at h
  cases q : me env with
  | stuck => rw [q] at h; exact h.elim
  | ex c e' =>
    rw [q] at h
    exact (pi_list hl).run pins s σ H R I ⟨T, env, t, I0, L, by rw [q]; exact h⟩
  | ok r e1 =>
    rw [q] at h
    dsimp only at h
    cases q2 : gv r e1 with
    | stuck => rw [q2] at h; exact h.elim
    | ex c e' => exact absurd q2 gv_noex
    | ok d e2 =>
      rw [q2] at h
      have go : ∀ (P : V → Hp → Prop), (∀ ds T2 H1 v, itemsOf d = some ds → RepD X.K (S T2 H1) d v → (∀ J, ItOk X.K J T2 H1 ds → R J H1) → P v H1) → tE X.K cx W me σ H P := fun P hP => by
        refine ⟨T, env, t, I0, L, ?_⟩
        rw [q]
        intro T1 H1 F1 I1 L1 v hv
        obtain ⟨z, F2, I2, L2, rd⟩ := gv_ok L F1 I1 L1 hv q2
        unfold lift at h
        cases qi : itemsOf d with
        | none => simp only [qi] at h; exact h.elim
        | some ds =>
          simp only [qi] at h
          exact hP ds _ H1 v qi rd fun J hJ => h _ H1 F2 I2 L2 J hJ
      cases d with
      | lst ds => exact (pi_list hl).run pins s σ H R I (go _ fun ds' T2 H1 v e rd k => by
          simp only [itemsOf, Option.some.injEq] at e
          subst e
          simp only [RepD] at rd
          obtain ⟨a, vs, rfl, qa, r⟩ := rd
          exact ⟨a, rfl, ⟨vs, .of (S_some.mp qa).2⟩, k _ (it_lst qa r)⟩)
      | scr ds => exact (pi_list hl).run pins s σ H R I (go _ fun ds' T2 H1 v e rd k => by
          simp only [itemsOf, Option.some.injEq] at e
          subst e
          simp only [RepD] at rd
          obtain ⟨a, vs, rfl, qa, r⟩ := rd
          exact ⟨a, rfl, ⟨vs, SqL_mono (fun _ _ e => (S_some.mp e).2) qa⟩, k _ (it_scr qa r)⟩)
      | tup ds => exact (pi_tup hl).run pins s σ H R I (go _ fun ds' T2 H1 v e rd k => by
          simp only [itemsOf, Option.some.injEq] at e
          subst e
          simp only [RepD] at rd
          obtain ⟨a, vs, rfl, qa, r⟩ := rd
          exact ⟨a, rfl, ⟨vs, SqT_mono (fun _ _ e => (S_some.mp e).2) qa⟩, k _ (it_tup qa r)⟩)
      | str x => exact (pi_str hl).run pins s σ H R I (go _ fun ds' T2 H1 v e rd k => by
          simp only [itemsOf, Option.some.injEq] at e
          subst e
          simp only [RepD] at rd
          obtain ⟨rfl, ok⟩ := rd
          exact ⟨_, rfl, k _ (it_str ok)⟩)
      | non => exact (show False from h).elim
      | bl b => exact (show False from h).elim
      | int i => exact (show False from h).elim
      | ty i => exact (show False from h).elim
      | opq i => exact (show False from h).elim⟩
/-- range(n), range(a, b) -/
def rngD (lo hi : Int) : List D := (List.range (hi - lo).toNat).map fun i : Nat => .int (lo + (i : Int))
def okR (i : Int) : Bool := decide (-4611686018427387904 ≤ i) && decide (i < 4611686018427387904)
def itR1 (m : EM Rs) : EM (List D) := bd (evs [m]) fun rs => fun e => match lookAll e rs with
  | some [.s (.int n)] => if okR n then .ok (rngD 0 n) e else .stuck
  | _ => .stuck
def itR2 (a b : EM Rs) : EM (List D) := bd (evs [a, b]) fun rs => fun e => match lookAll e rs with
  | some [.s (.int m), .s (.int n)] => if okR m && okR n then .ok (rngD m n) e else .stuck
  | _ => .stuck
theorem i_rng1 {a : Expr} {p : Pos} (ha : PE X a (tE X.K cx W ma)) (hm : X.mg "range" = none) (hg : Gl X "range" := by rfl) (hs : starEach [a] X.env = [(false, eval a X.env)] := by rfl) (hs' : starEach (a :: []) X.env = (false, eval a X.env) :: starEach [] X.env := by rfl) :
    PI X tg (.Call (.Name "range" p) [a] [] pos) (tI X.K cx W (itR1 ma)) := ⟨fun pins s σ H R I h => by
  refine (pi_range1 hg hm (a_cons ha a_nil hs') hs).run pins s σ H R I ?_
  obtain ⟨T, env, t, I0, L, h⟩ := h
  refine ⟨T, env, t, I0, L, h.bd fun rs e1 T1 H1 F1 I1 L1 h1 vs hvs => ?_⟩
  try dsimp only at h1
  split at h1
  · rename_i n q1
    split at h1
    · rename_i q2
      obtain ⟨v, ws, rfl, ⟨rt, p, r⟩, e⟩ := lookAll_rep I1 hvs q1
      simp only [RepO, RepD] at r
      subst r
      have e : ws = [] := e
      subst e
      simp only [okR, Bool.and_eq_true, decide_eq_true_eq] at q2
      refine ⟨n, rfl, by omega, by omega, h1.use F1 I1 L1 _ ?_⟩
      have := it_rng (K := X.K) (T := T1) (H := H1) (lo := 0) (n := n.toNat)
      simpa [rngD] using this
    · exact h1.elim
  · exact h1.elim⟩
theorem i_rng2 {a b : Expr} {p : Pos} (ha : PE X a (tE X.K cx W ma)) (hb : PE X b (tE X.K cx W mb)) (hm : X.mg "range" = none) (hg : Gl X "range" := by rfl) (hs : starEach [a, b] X.env = [(false, eval a X.env), (false, eval b X.env)] := by rfl) (hs2 : starEach [b] X.env = [(false, eval b X.env)] := by rfl)
    (hs1 : starEach (a :: [b]) X.env = (false, eval a X.env) :: starEach [b] X.env := by rfl) (hs3 : starEach (b :: []) X.env = (false, eval b X.env) :: starEach [] X.env := by rfl) :
    PI X tg (.Call (.Name "range" p) [a, b] [] pos) (tI X.K cx W (itR2 ma mb)) := ⟨fun pins s σ H R I h => by
  refine (pi_range2 hg hm (a_cons ha (a_cons hb a_nil hs3) hs1) hs hs2).run pins s σ H R I ?_
  obtain ⟨T, env, t, I0, L, h⟩ := h
  refine ⟨T, env, t, I0, L, h.bd fun rs e1 T1 H1 F1 I1 L1 h1 vs hvs => ?_⟩
  try dsimp only at h1
  split at h1
  · rename_i m n q1
    split at h1
    · rename_i q2
      obtain ⟨v, ws, rfl, ⟨rt, p, r⟩, v2, ws2, rfl, ⟨rt2, p2, r2⟩, e⟩ := lookAll_rep I1 hvs q1
      simp only [RepO, RepD] at r r2
      subst r r2
      have e : ws2 = [] := e
      subst e
      simp only [okR, Bool.and_eq_true, decide_eq_true_eq] at q2
      refine ⟨m, n, rfl, ⟨by omega, by omega, by omega, by omega⟩, h1.use F1 I1 L1 _ it_rng⟩
    · exact h1.elim
  · exact h1.elim⟩
/-- enumerate of a list, zip of two lists, of two tuples: what is walked is given up -/
def itE (m : EM Rs) : EM (List D) := bd (evs [m]) fun rs => bd (gvs rs) fun ds => fun e => match ds with
  | [.lst xs] => .ok (enumD xs) e
  | [.scr xs] => .ok (enumD xs) e
  | _ => .stuck
def itZ (a b : EM Rs) : EM (List D) := bd (evs [a, b]) fun rs => bd (gvs rs) fun ds => fun e => match ds with
  | [.lst xs, .lst ys] => .ok (zipD xs ys) e
  | [.tup xs, .tup ys] => .ok (zipD xs ys) e
  | _ => .stuck
theorem walk_go {ms : List (EM Rs)} {f : List D → EM (List D)} {σ : L2.St} {H : Hp} {R : It → Hp → Prop} (hf : ∀ ds e c e', f ds e ≠ .ex c e') (h : tI X.K cx W (bd (evs ms) fun rs => bd (gvs rs) f) σ H R) (k : List V → Hp → Prop)
    (hk : ∀ T1 H1 e1 e2 ds vs xs, RepDs X.K (S T1 H1) ds vs → f ds e1 = .ok xs e2 → (e1 = e2 → ∀ J, ItOk X.K J T1 H1 xs → R J H1) → k vs H1) : tA X.K cx W (evs ms) σ H k := by
  obtain ⟨T, env, t, I, L, h⟩ := h
  refine ⟨T, env, t, I, L, ?_⟩
  unfold Wk bd at h
  cases e : evs ms env with
  | stuck => rw [e] at h; exact h.elim
  | ex c e' => rw [e] at h; exact h
  | ok rs e1 =>
    rw [e] at h
    dsimp only at h
    obtain ⟨op1, ln⟩ := evs_opn e
    intro T1 H1 F1 I1 L1 vs hvs
    cases e2 : gvs rs e1 with
    | stuck => rw [e2] at h; exact h.elim
    | ex c e' => exact absurd e2 gvs_noex
    | ok ds e3 =>
      rw [e2] at h
      dsimp only at h
      obtain ⟨T2, F2, I2, L2, rds, _⟩ := gvs_ok L op1 F1 I1 L1 hvs e2
      cases e4 : f ds e3 with
      | stuck => rw [e4] at h; exact h.elim
      | ex c e' => exact absurd e4 (hf _ _ _ _)
      | ok xs e5 =>
        rw [e4] at h
        exact hk T2 H1 e3 e5 ds vs xs rds e4 fun z J hJ => h T2 H1 F2 (z ▸ I2) L2 J hJ
theorem i_enum {a : Expr} {p tpos : Pos} {elts : List Expr} {kk : Nat} (ha : PE X a (tE X.K cx W ma)) (hm : X.mg "enumerate" = none) (hg : Gl X "enumerate" := by rfl) (hs : starEach [a] X.env = [(false, eval a X.env)] := by rfl) (hs' : starEach (a :: []) X.env = (false, eval a X.env) :: starEach [] X.env := by rfl) :
    PI X (.Tuple elts kk tpos) (.Call (.Name "enumerate" p) [a] [] pos) (tI X.K cx W (itE ma)) := ⟨fun pins s σ H R I h => by
  refine (pi_enum hg hm (a_cons ha a_nil hs') hs).run pins s σ H R I ?_
  refine walk_go (fun ds e c e' => by split <;> simp) h _ fun T1 H1 e1 e2 ds vs xs rds ef q => ?_
  split at ef
  · simp only [MI.R.ok.injEq] at ef
    obtain ⟨rfl, rfl⟩ := ef
    simp only [RepDs] at rds
    obtain ⟨v, ws, rfl, rd, rfl⟩ := rds
    simp only [RepD] at rd
    obtain ⟨a, us, rfl, qa, r⟩ := rd
    exact ⟨a, us, rfl, .of (S_some.mp qa).2, q rfl _ (it_enum (.of qa) r)⟩
  · simp only [MI.R.ok.injEq] at ef
    obtain ⟨rfl, rfl⟩ := ef
    simp only [RepDs] at rds
    obtain ⟨v, ws, rfl, rd, rfl⟩ := rds
    simp only [RepD] at rd
    obtain ⟨a, us, rfl, qa, r⟩ := rd
    exact ⟨a, us, rfl, SqL_mono (fun _ _ e => (S_some.mp e).2) qa, q rfl _ (it_enum qa r)⟩
  · cases ef⟩
theorem i_zip {a b : Expr} {p tpos : Pos} {elts : List Expr} {kk : Nat} (ha : PE X a (tE X.K cx W ma)) (hb : PE X b (tE X.K cx W mb)) (hm : X.mg "zip" = none) (hg : Gl X "zip" := by rfl)
    (hs : starEach [a, b] X.env = (false, eval a X.env) :: starEach [b] X.env := by rfl) (hs3 : starEach (b :: []) X.env = (false, eval b X.env) :: starEach [] X.env := by rfl) (hpl : (PySem.backTo pos (starEach [b] X.env)).any (·.1) = false := by rfl) :
    PI X (.Tuple elts kk tpos) (.Call (.Name "zip" p) [a, b] [] pos) (tI X.K cx W (itZ ma mb)) := ⟨fun pins s σ H R I h => by
  refine (pi_zipA hg hm (a_cons ha (a_cons hb a_nil hs3) hs) hs hpl).run pins s σ H R I ?_
  refine walk_go (fun ds e c e' => by split <;> simp) h _ fun T1 H1 e1 e2 ds vs xs rds ef q => ?_
  split at ef
  · simp only [MI.R.ok.injEq] at ef
    obtain ⟨rfl, rfl⟩ := ef
    simp only [RepDs] at rds
    obtain ⟨v, ws, rfl, rd, v2, ws2, rfl, rd2, rfl⟩ := rds
    simp only [RepD] at rd rd2
    obtain ⟨a, us, rfl, qa, r⟩ := rd
    obtain ⟨b, us2, rfl, qb, r2⟩ := rd2
    exact ⟨a, b, us, us2, rfl, .inl ⟨.of (S_some.mp qa).2, .of (S_some.mp qb).2, q rfl _ (it_zipL (.of qa) r (.of qb) r2)⟩⟩
  · simp only [MI.R.ok.injEq] at ef
    obtain ⟨rfl, rfl⟩ := ef
    simp only [RepDs] at rds
    obtain ⟨v, ws, rfl, rd, v2, ws2, rfl, rd2, rfl⟩ := rds
    simp only [RepD] at rd rd2
    obtain ⟨a, us, rfl, qa, r⟩ := rd
    obtain ⟨b, us2, rfl, qb, r2⟩ := rd2
    exact ⟨a, b, us, us2, rfl, .inr ⟨SqT_mono (fun _ _ e => (S_some.mp e).2) qa, SqT_mono (fun _ _ e => (S_some.mp e).2) qb, q rfl _ (it_zipT qa r qb r2)⟩⟩
  · cases ef⟩
end
end MI
/-! MiLoop2: targets, for, comprehensions, the rule of a function. -/
namespace MI
open PySem L2

/-! ### targets -/
abbrev Tgt := D → Env → Option Env
def tG (K : PySem.W.Frag) (prot : Nat → Bool) (g : Tgt) : TG := fun v σ H Q => ∃ T env d env', EI K T H env σ ∧ RepD K (S T H) d v ∧ g d env = some env' ∧ ∀ σ', EI K T H env' σ' → σ'.length = σ.length → Pt prot σ σ' → Q σ' H
def gNm (i : Nat) : Tgt := fun d e => some (e.set i (some (.s d)))
def gTps : List Tgt → List D → Env → Option Env
  | [], [], e => some e
  | g :: gs, d :: ds, e => match g d e with
    | some e' => gTps gs ds e'
    | none => none
  | _, _, _ => none
def gTp (gs : List Tgt) : Tgt := fun d e => match d with
  | .tup ds => gTps gs ds e
  | _ => none
def tGs (K : PySem.W.Frag) (prot : Nat → Bool) (gs : List Tgt) : TGs := fun vs σ H Q => ∃ T env ds env', EI K T H env σ ∧ RepDs K (S T H) ds vs ∧ gTps gs ds env = some env' ∧ ∀ σ', EI K T H env' σ' → σ'.length = σ.length → Pt prot σ σ' → Q σ' H
section
variable {X : Cx} {prot : Nat → Bool} {pos : Pos}
theorem PGimp {e : Expr} {t t' : TG} (h : PG X e t) (w : ∀ v σ H Q, t' v σ H Q → t v σ H Q) : PG X e t' := ⟨fun pins s σ H v u Q I r hw => h.run pins s σ H v u Q I r (w v σ H Q hw)⟩
theorem PGsimp {e : List Expr} {t t' : TGs} (h : PGs X e t) (w : ∀ v σ H Q, t' v σ H Q → t v σ H Q) : PGs X e t' := ⟨fun pins s σ H v u Q I r hw => h.run pins s σ H v u Q I r (w v σ H Q hw)⟩
theorem g_nm {i : Nat} {x : Str} (hN : X.N.Nodup) (hp : prot i = false := by rfl) (hi : X.N[i]? = some x := by rfl) (hx : Loc X.env.scope x := by first | exact Or.inl rfl | exact Or.inr rfl)
    (hf : X.fn x = true ∨ X.env.scope.names.lookup x = some .local := by first | exact .inl rfl | exact .inr rfl) : PG X (.Name x pos) (tG X.K prot (gNm i)) := PGimp (pg_name hN hi hx hf) fun v σ H Q h => by
  obtain ⟨T, env, d, env', I, rd, e, k⟩ := h
  simp only [gNm, Option.some.injEq] at e
  subst e
  exact k _ (I.setD rd) (List.length_set) (Pt.set hp)
theorem gs_nil : PGs X [] (tGs X.K prot []) := PGsimp pgs_nil fun v σ H Q h => by
  obtain ⟨T, env, ds, env', I, rd, e, k⟩ := h
  cases ds with
  | nil =>
    simp only [gTps, Option.some.injEq] at e
    subst e
    exact ⟨by simpa only [RepDs] using rd, k σ I rfl Pt.refl⟩
  | cons d ds => simp [gTps] at e
theorem gs_cons {e : Expr} {es : List Expr} {g : Tgt} {gs : List Tgt} (h1 : PG X e (tG X.K prot g)) (h2 : PGs X es (tGs X.K prot gs)) (hs : (assignEach (e :: es) X.env).map (·.2) = assign e X.env :: (assignEach es X.env).map (·.2) := by rfl) : PGs X (e :: es) (tGs X.K prot (g :: gs)) := PGsimp (pgs_cons h1 h2 hs) fun v σ H Q h => by
  obtain ⟨T, env, ds, env', I, rd, e, k⟩ := h
  cases ds with
  | nil => simp [gTps] at e
  | cons d ds =>
    simp only [gTps] at e
    simp only [RepDs] at rd
    obtain ⟨w, ws, rfl, rd1, rd2⟩ := rd
    split at e
    · rename_i e1 q
      refine ⟨w, ws, rfl, T, env, d, e1, I, rd1, q, fun σ1 I1 l1 P1 => ⟨T, e1, ds, env', I1, rd2, e, fun σ2 I2 l2 P2 => k σ2 I2 (l2.trans l1) (P1.trans P2)⟩⟩
    · cases e
theorem g_tup {es : List Expr} {gs : List Tgt} {k : Nat} {n : Nat} (h : PGs X es (tGs X.K prot gs)) (hl : gs.length = n := by rfl) (hc : X.calm = true := by rfl) (hn : (assignEach es X.env).length = n := by rfl) (hst : (assignEach es X.env).findIdx? (·.1) = none := by rfl) :
    PG X (.Tuple es k pos) (tG X.K prot (gTp gs)) := PGimp (pg_tup hc h hn hst) fun v σ H Q h => by
  obtain ⟨T, env, d, env', I, rd, e, k⟩ := h
  cases d with
  | tup ds =>
    simp only [gTp] at e
    simp only [RepD] at rd
    obtain ⟨a, vs, rfl, q, r⟩ := rd
    have ln : ∀ {gs : List Tgt} {ds : List D} {e e' : Env}, gTps gs ds e = some e' → ds.length = gs.length := by
      intro gs
      induction gs with
      | nil => intro ds e e' h; cases ds with
        | nil => rfl
        | cons d ds => simp [gTps] at h
      | cons g gs ih => intro ds e e' h; cases ds with
        | nil => simp [gTps] at h
        | cons d ds =>
          simp only [gTps] at h
          split at h
          · simp [ih h]
          · cases h
    exact ⟨a, vs, rfl, SqT_mono (fun _ _ e => (S_some.mp e).2) q, by rw [RepDs_len r, ln e, hl], T, env, ds, env', I, r, e, k⟩
  | non => simp [gTp] at e
  | bl b => simp [gTp] at e
  | int b => simp [gTp] at e
  | str b => simp [gTp] at e
  | lst b => simp [gTp] at e
  | scr b => simp [gTp] at e
  | ty b => simp [gTp] at e
  | opq b => simp [gTp] at e
end
theorem gTps_len : ∀ {gs : List Tgt}, (∀ g ∈ gs, ∀ d e e', g d e = some e' → e'.length = e.length) → ∀ {ds : List D} {e e' : Env}, gTps gs ds e = some e' → e'.length = e.length
  | [], _, ds, e, e', h => by
    cases ds with
    | nil => simp only [gTps, Option.some.injEq] at h; rw [h]
    | cons d ds => simp [gTps] at h
  | g :: gs, k, ds, e, e', h => by
    cases ds with
    | nil => simp [gTps] at h
    | cons d ds =>
      simp only [gTps] at h
      split at h
      · rename_i e1 q
        rw [gTps_len (fun g hg => k g (List.mem_cons_of_mem _ hg)) h, k g List.mem_cons_self _ _ _ q]
      · cases h

/-! ### for -/
def loop (tg : Tgt) (body : SM) : List D → SM
  | [] => ret .nx
  | d :: ds => fun e => match tg d e with
    | some e1 => (bd body fun f => match f with
      | .nx => loop tg body ds
      | .ct => loop tg body ds
      | .bk => ret .nx
      | .rt o => ret (.rt o)) e1
    | none => .stuck
def sFor (it : EM (List D)) (tg : Tgt) (body : SM) : SM := bd it fun ds => loop tg body ds
section
variable {X : Cx} {cx : Nat → Addr} {W : WX} {prot : Nat → Bool} {tg iter : Expr} {body : List Stmt} {mi : EM (List D)} {g : Tgt} {mb : SM} {pos : Pos}
theorem s_for (hp : PassesOwn (model X.prog X.w) X.A X.env X.xe) (hi : PI X tg iter (tI X.K cx W mi)) (hg : PG X tg (tG X.K prot g)) (hb : PSs X body (tS X.K cx W prot mb)) (hc : X.calm = true := by rfl)
    (hs : ∀ x, foldedSetIterable iter X.env x = pure x := by intro _; rfl) : PS X (.For tg iter body [] pos) (tS X.K cx W prot (sFor mi g mb)) := PSimp (ps_for hp hc hi hg hb hs) fun De σ H h => by
  obtain ⟨T, env, I, L, h⟩ := h
  refine ⟨T, env, 0, I, L, h.bd fun ds e1 T1 H1 F1 I1 L1 h1 J hJ => ?_⟩
  obtain ⟨F1', I1', L1'⟩ := clean L F1 I1 L1
  refine ⟨fun i m σ' H' => m = ds.length - i ∧ i ≤ ds.length ∧ ∃ T' env', Fr T T' H H' ∧ Sg T1 T' H1 H' ∧ EI X.K T' H' env' σ' ∧ Lt 0 T' ∧ Pt prot σ σ' ∧ Ws X.K cx W prot σ T H (loop g mb (ds.drop i) env') De, ⟨ds.length, rfl, Nat.zero_le _, _, e1, F1', Sg.untag, I1', L1', Pt.refl, h1⟩, fun i m σ' H' hW => ?_⟩
  · obtain ⟨rfl, hi, T', env', F', F1'', I', L', P', h'⟩ := hW
    obtain ⟨js, jg⟩ := hJ T' H' F1'' i
    by_cases hlt : i < ds.length
    · obtain ⟨go, y⟩ := jg ds[i] (List.getElem?_eq_getElem hlt)
      rw [List.drop_eq_getElem_cons hlt] at h'
      simp only [loop] at h'
      split at h'
      · rename_i e2 q2
        refine .inr ⟨go, fun σ3 H3 => ∃ T3 e3, Fr T T3 H H3 ∧ Sg T1 T3 H1 H3 ∧ EI X.K T3 H3 e3 σ3 ∧ Lt 0 T3 ∧ Pt prot σ σ3 ∧ Ws X.K cx W prot σ T H (loop g mb (ds.drop (i + 1)) e3) De, fun σ3 H3 h3 => ⟨ds.length - (i + 1), by omega, rfl, hlt, h3⟩, fun x H2 hy => ?_⟩
        obtain ⟨T2, G2, l2, rd⟩ := y x H2 hy
        refine ⟨T2, env', ds[i], e2, G2.ei I', rd, q2, fun σ2 I2 _ P2 => ⟨T2, e2, I2, l2 0 L', ?_⟩⟩
        have F2 : Fr T T2 H H2 := F'.trans G2.fr
        have F12 : Sg T1 T2 H1 H2 := F1''.trans G2.fr.sg
        unfold bd at h'
        cases q3 : mb e2 with
        | stuck => rw [q3] at h'; exact h'
        | ex c e3 => rw [q3] at h'; exact fun T3 H3 σ3 F3 I3 L3 P3 => h' T3 H3 σ3 (F2.trans F3) I3 L3 ((P'.trans P2).trans P3)
        | ok fl e3 =>
          rw [q3] at h'
          cases fl with
          | nx => exact fun T3 H3 σ3 F3 I3 L3 P3 => ⟨T3, e3, F2.trans F3, F12.trans F3.sg, I3, L3, (P'.trans P2).trans P3, h'⟩
          | ct => exact fun T3 H3 σ3 F3 I3 L3 P3 => ⟨T3, e3, F2.trans F3, F12.trans F3.sg, I3, L3, (P'.trans P2).trans P3, h'⟩
          | bk => exact fun T3 H3 σ3 F3 I3 L3 P3 => h' T3 H3 σ3 (F2.trans F3) I3 L3 ((P'.trans P2).trans P3)
          | rt o => exact fun v T3 H3 σ3 F3 I3 L3 P3 => h' v T3 H3 σ3 (F2.trans F3) I3 L3 ((P'.trans P2).trans P3)
      · exact h'.elim
    · have e : i = ds.length := by omega
      subst e
      rw [List.drop_length] at h'
      exact .inl ⟨js (Nat.le_refl _), h' T' H' σ' F' I' L' P'⟩
end
end MI
/-! MiComp: list comprehensions. -/
namespace MI
open PySem L2

def wipeE (e : Env) : List Nat → Env
  | [] => e
  | v :: vs => (wipeE e vs).set v none
def restE (e0 : Env) : List Nat → Env → Env
  | [], e => e
  | v :: vs, e => match (e0[v]?).join with
    | some (.s d) => (restE e0 vs e).set v (some (.s d))
    | _ => restE e0 vs e
def lcLoop (tg : Tgt) (cond : EM Bool) (elt : EM Rs) (own : List Nat) : List D → EM (List D)
  | [] => ret []
  | d :: ds => fun e => match tg d e with
    | some e1 => (bd cond fun b => if b then (bd elt fun r => bd (gv r) fun x => fun e2 => (bd (lcLoop tg cond elt own ds) fun xs => ret (x :: xs)) (wipeE e2 own)) else fun e2 => lcLoop tg cond elt own ds (wipeE e2 own)) e1
    | none => .stuck
def eLc (it : EM (List D)) (tg : Tgt) (cond : EM Bool) (elt : EM Rs) (own : List Nat) : EM Rs := bd it fun ds => fun e => match lcLoop tg cond elt own ds (wipeE e own) with
  | .ok xs e' => if xs.length ≤ 16777216 then .ok (.v (.l (xs.map .s))) (restE e own e') else .stuck
  | _ => .stuck
theorem wipeE_len (e : Env) : ∀ vs, (wipeE e vs).length = e.length
  | [] => rfl
  | v :: vs => by unfold wipeE; rw [List.length_set, wipeE_len e vs]
theorem wipeE_at {e : Env} {i : Nat} {o : O} : ∀ {vs : List Nat}, (wipeE e vs)[i]? = some (some o) → e[i]? = some (some o) ∧ i ∉ vs
  | [], h => ⟨h, by simp⟩
  | v :: vs, h => by
    unfold wipeE at h
    by_cases hi : v = i
    · subst hi
      by_cases hv : v < (wipeE e vs).length
      · rw [List.getElem?_set_self hv] at h; cases h
      · rw [List.getElem?_eq_none (by rw [List.length_set]; omega)] at h; cases h
    · rw [List.getElem?_set_ne hi] at h
      obtain ⟨h1, h2⟩ := wipeE_at h
      exact ⟨h1, by simp only [List.mem_cons, not_or]; exact ⟨fun e => hi e.symm, h2⟩⟩
theorem wipe_get {σ : L2.St} {i : Nat} : ∀ {vs : List Nat}, (wipe σ vs)[i]? = if i ∈ vs ∧ i < σ.length then some none else σ[i]?
  | [] => by simp [wipe]
  | v :: vs => by
    unfold wipe
    by_cases hi : v = i
    · subst hi
      by_cases hv : v < σ.length
      · rw [List.getElem?_set_self (by rw [wipe_length]; exact hv)]
        simp [hv]
      · rw [List.getElem?_eq_none (by rw [List.length_set, wipe_length]; omega)]
        simp [hv, List.getElem?_eq_none (show σ.length ≤ v by omega)]
    · rw [List.getElem?_set_ne hi, wipe_get]
      simp [List.mem_cons, Ne.symm hi]
/-- the names of a comprehension's own -/
def ownP (vs : List Nat) : Nat → Bool := fun j => !(vs.elem j)
theorem wipe_back {σ σ2 : L2.St} {vs : List Nat} (h : Pt (ownP vs) (wipe σ vs) σ2) (hl : σ2.length = σ.length) : wipe σ2 vs = wipe σ vs := by
  apply List.ext_getElem?
  intro i
  rw [wipe_get, wipe_get, hl]
  by_cases hi : i ∈ vs
  · by_cases hb : i < σ.length
    · simp [hi, hb]
    · rw [List.getElem?_eq_none (show σ2.length ≤ i by omega), List.getElem?_eq_none (show σ.length ≤ i by omega)]
  · have q := h i (by simp [ownP, hi])
    rw [wipe_get] at q
    simp only [hi, false_and, if_false] at q ⊢
    exact q
section
variable {K : PySem.W.Frag} {σ : L2.St} {T : TM} {H : Hp} {e : Env} {vs : List Nat}
theorem ei_wipe (I : EI K T H e σ) : EI K T H (wipeE e vs) (wipe σ vs) := ⟨by rw [wipeE_len, wipe_length]; exact I.len, fun i o h => by
  obtain ⟨h1, h2⟩ := wipeE_at h
  obtain ⟨v, e1, r⟩ := I.at_ i o h1
  exact ⟨v, by rw [wipe_get]; simp [h2, e1], r⟩⟩
theorem ei_unwipe (I : EI K T H e (wipe σ vs)) : EI K T H e σ := ⟨by have := I.len; rw [wipe_length] at this; exact this, fun i o h => by
  obtain ⟨v, e1, r⟩ := I.at_ i o h
  exact ⟨v, (wipe_some e1).1, r⟩⟩
theorem ei_rest {T1 : TM} {H1 : Hp} {e0 : Env} (I0 : EI K T1 H1 e0 σ) (g : Sg T1 T H1 H) : ∀ {vs : List Nat} {e : Env}, EI K T H e σ → EI K T H (restE e0 vs e) σ
  | [], e, I => I
  | v :: vs, e, I => by
    unfold restE
    split
    · rename_i d q
      obtain ⟨w, e1, r⟩ := I0.at_ v _ (by simpa only [Option.join_eq_some_iff] using q)
      simp only [RepO] at r
      have I2 := ei_rest I0 g (vs := vs) I
      have I3 := I2.setD (i := v) (g.d r)
      have : σ.set v (some w) = σ := by
        apply List.ext_getElem?
        intro j
        by_cases hj : v = j
        · subst hj
          rw [e1, List.getElem?_set_self (List.getElem?_eq_some_iff.mp e1).1]
        · rw [List.getElem?_set_ne hj]
      rw [this] at I3
      exact I3
    · exact ei_rest I0 g I
theorem ei_updT {p : Addr} {t : Nat} {q : List Nat} {o : HO} (hp : T p = some (.tm t, q)) (I : EI K T H e σ) : EI K T (upd H p o) e σ := ⟨I.len, fun i u h => by
  obtain ⟨v, e1, r⟩ := I.at_ i u h
  exact ⟨v, e1, RepO_upd hp (by intro z; cases z) r⟩⟩
theorem fr_updT {T0 T1 : TM} {H0 H1 : Hp} {p : Addr} {o : HO} (F1 : Fr T0 T1 H0 H1) (hp : H1 p = none) (F : Fr T0 T H0 H) : Fr T0 T H0 (upd H p o) := ⟨fun b u eb k => by
  have nb : b ≠ p := fun z => by rw [z] at eb k; rw [(F1.keep p u eb k).1] at hp; cases hp
  rw [upd_ne nb]
  exact F.keep b u eb k, F.far⟩
theorem sg_updT {T1 : TM} {H1 : Hp} {p : Addr} {o : HO} (hp : H1 p = none) (g : Sg T1 T H1 H) : Sg T1 T H1 (upd H p o) := fun b u h => by
  have nb : b ≠ p := fun z => by rw [z] at h; rw [(S_some.mp h).2] at hp; cases hp
  have := S_some.mp (g b u h)
  exact S_some.mpr ⟨this.1, by rw [upd_ne nb]; exact this.2⟩
theorem ds_updT {p : Addr} {t : Nat} {q : List Nat} {o : HO} (hp : T p = some (.tm t, q)) {ds : List D} {vs : List V} (r : RepDs K (S T H) ds vs) : RepDs K (S T (upd H p o)) ds vs := RepDs_mono (fun b u h => by
  obtain ⟨h1, h2⟩ := S_some.mp h
  have nb : b ≠ p := fun z => by rw [z, hp] at h1; cases h1
  exact S_some.mpr ⟨h1, by rw [upd_ne nb]; exact h2⟩) ds vs r
end
abbrev W0 : WX := fun _ _ _ _ => False
section
variable {X : Cx} {cx : Nat → Addr} {W : WX} {mi : EM (List D)} {g : Tgt} {mc : EM Bool} {me : EM Rs} {own : List Nat}
theorem lc_go {σ : L2.St} {H : Hp} {Q : VK} (h : tE X.K cx W (eLc mi g mc me own) σ H Q) : tLc (tI X.K cx W mi) (tG X.K (ownP own) g) (tT X.K cx W0 mc) (tE X.K cx W0 me) own σ H Q := by
  obtain ⟨T, env, t, I, L, h⟩ := h
  refine ⟨T, env, t, I, L, h.bd fun ds e1 T1 H1 F1 I1 L1 h1 J hJ p hp => ?_⟩
  obtain ⟨F1', I1', L1'⟩ := clean L F1 I1 L1
  try dsimp only at h1
  cases qL : lcLoop g mc me own ds (wipeE e1 own) with
  | stuck => rw [qL] at h1; exact h1.elim
  | ex c e' => rw [qL] at h1; exact h1.elim
  | ok xs eE =>
    rw [qL] at h1
    dsimp only at h1
    by_cases hx : xs.length ≤ 16777216
    · rw [if_pos hx] at h1
      have G0 : Gr (untag (isTm t) T1) (put (untag (isTm t) T1) p (some (.tm t, []))) H1 (upd H1 p (.lst [])) := Gr.new hp (by simp)
      refine ⟨fun i m H' => m = ds.length - i ∧ i ≤ ds.length ∧ ∃ T' env' acc accV out, Fr T T' H H' ∧ Sg T1 T' H1 H' ∧ EI X.K T' H' env' (wipe σ own) ∧ Lt (t + 1) T' ∧ T' p = some (.tm t, []) ∧ H' p = some (.lst accV) ∧ RepDs X.K (S T' H') acc accV ∧ lcLoop g mc me own (ds.drop i) env' = .ok out eE ∧ acc ++ out = xs,
        ⟨ds.length, rfl, Nat.zero_le _, _, wipeE e1 own, [], [], xs, F1'.trans G0.fr, Sg.untag.trans G0.fr.sg, G0.ei (ei_wipe I1'), (L1'.mono (Nat.le_succ t)).put (by simp), put_same, upd_same, by simp [RepDs], qL, rfl⟩, fun i m H' hW => ?_⟩
      obtain ⟨rfl, hi, T', env', acc, accV, out, F', S', I', L', tp, hP, ra, qo, ea⟩ := hW
      obtain ⟨js, jg⟩ := hJ T' H' S' i
      by_cases hlt : i < ds.length
      · obtain ⟨go, y⟩ := jg ds[i] (List.getElem?_eq_getElem hlt)
        refine .inr ⟨go, fun H' => ∃ T' env' acc accV out, Fr T T' H H' ∧ Sg T1 T' H1 H' ∧ EI X.K T' H' env' (wipe σ own) ∧ Lt (t + 1) T' ∧ T' p = some (.tm t, []) ∧ H' p = some (.lst accV) ∧ RepDs X.K (S T' H') acc accV ∧ lcLoop g mc me own (ds.drop (i + 1)) env' = .ok out eE ∧ acc ++ out = xs,
          fun H' hN => ⟨ds.length - (i + 1), by omega, rfl, hlt, hN⟩, fun x H2 hy => ?_⟩
        obtain ⟨T2, G2, l2, rd⟩ := y x H2 hy
        rw [List.drop_eq_getElem_cons hlt] at qo
        simp only [lcLoop] at qo
        split at qo
        · rename_i e2 q2
          refine ⟨T2, env', ds[i], e2, G2.ei I', rd, q2, fun σ2 I2 l2' P2 => ⟨wipe_back P2 (l2'.trans (wipe_length _ _)), T2, e2, t + 1, I2, l2 _ L', ?_⟩⟩
          · have tp2 : T2 p = some (.tm t, []) := (G2.keep p _ hP).2.trans tp
            have hP2 : H2 p = some (.lst accV) := (G2.keep p _ hP).1
            have ra2 : RepDs X.K (S T2 H2) acc accV := G2.fr.ds ra
            have wb : wipe σ2 own = wipe σ own := wipe_back P2 (l2'.trans (wipe_length _ _))
            unfold bd at qo
            cases q3 : mc e2 with
            | stuck => rw [q3] at qo; cases qo
            | ex c e' => rw [q3] at qo; cases qo
            | ok b e3 =>
              rw [q3] at qo
              dsimp only at qo
              intro T3 H3 F3 I3 L3
              obtain ⟨F3', I3', L3'⟩ := clean (l2 _ L') F3 I3 L3
              have k3 := F3'.keep p _ hP2 (by rw [tp2]; exact .inr (.inr ⟨_, _, rfl⟩))
              have tp3 : untag (isTm (t + 1)) T3 p = some (.tm t, []) := k3.2.trans tp2
              have FF3 : Fr T (untag (isTm (t + 1)) T3) H H3 := (F'.trans G2.fr).trans F3'
              have SS3 : Sg T1 (untag (isTm (t + 1)) T3) H1 H3 := (S'.trans G2.fr.sg).trans F3'.sg
              cases b with
              | false =>
                rw [if_neg Bool.false_ne_true] at qo
                have I4 := ei_wipe (vs := own) I3'
                rw [wb] at I4
                exact ⟨_, _, acc, accV, out, FF3, SS3, I4, L3', tp3, k3.1, F3'.ds ra2, qo, ea⟩
              | true =>
                rw [if_pos rfl] at qo
                refine ⟨_, e3, t + 1, I3', L3', ?_⟩
                cases q4 : me e3 with
                | stuck => rw [q4] at qo; cases qo
                | ex c e' => rw [q4] at qo; cases qo
                | ok r e4 =>
                  rw [q4] at qo
                  dsimp only at qo
                  intro T4 H4 F4 I4 L4 v hv
                  cases q5 : gv r e4 with
                  | stuck => rw [q5] at qo; cases qo
                  | ex c e' => exact absurd q5 gv_noex
                  | ok x1 e5 =>
                    rw [q5] at qo
                    dsimp only at qo
                    obtain ⟨z, F5, I5, L5, rd5⟩ := gv_ok L3' F4 I4 L4 hv q5
                    obtain ⟨F6, I6, L6⟩ := clean L3' F5 I5 L5
                    have k6 := F6.keep p _ k3.1 (by rw [tp3]; exact .inr (.inr ⟨_, _, rfl⟩))
                    have tp6 := k6.2.trans tp3
                    have ra6 := F6.ds (F3'.ds ra2)
                    have rd6 : RepD X.K (S (untag (isTm (t + 1)) (untag z T4)) H4) x1 v := d_untag rd5
                    cases q6 : lcLoop g mc me own (ds.drop (i + 1)) (wipeE e5 own) with
                    | stuck => rw [q6] at qo; cases qo
                    | ex c e' => rw [q6] at qo; cases qo
                    | ok xs2 e6 =>
                      rw [q6] at qo
                      simp only [ret, MI.R.ok.injEq] at qo
                      obtain ⟨rfl, rfl⟩ := qo
                      have la := RepDs_len ra6
                      have lx : acc.length + (xs2.length + 1) = xs.length := by rw [← ea]; simp
                      refine ⟨accV, k6.1, by rw [sizeLine_eq]; omega, _, wipeE e5 own, acc ++ [x1], accV ++ [v], xs2, fr_updT F1 hp (FF3.trans F6), sg_updT hp (SS3.trans F6.sg), ei_updT tp6 ?_, L6, tp6, upd_same, ds_updT tp6 (RepDs_app ra6 ?_), q6, ?_⟩
                      · have I7 := ei_wipe (vs := own) I6
                        rw [wb] at I7
                        exact I7
                      · simp only [RepDs]
                        exact ⟨v, [], rfl, rd6, rfl⟩
                      · rw [← ea]; simp
        · cases qo
      · have e : i = ds.length := by omega
        subst e
        rw [List.drop_length] at qo
        simp only [lcLoop, ret, MI.R.ok.injEq] at qo
        obtain ⟨rfl, rfl⟩ := qo
        rw [List.append_nil] at ea
        subst ea
        refine .inl ⟨js (Nat.le_refl _), h1 T' H' F' (ei_rest I1 S' (ei_unwipe I')) L' (.ref p) ?_⟩
        simp only [RsRep, RepO]
        exact ⟨p, accV, rfl, tp, hP, RepDs_os ra⟩
    · rw [if_neg hx] at h1; exact h1.elim
end
end MI
/-! MiFn: comprehensions as expressions and statements, calls with keywords, try, the rule of a function. -/
namespace MI
open PySem L2

section
variable {X : Cx} {cx : Nat → Addr} {W : WX} {prot : Nat → Bool} {elt tg iter : Expr} {ifs : List Expr} {scope : Scope} {own : List (Str × Nat)} {pos spos : Pos} {mi : EM (List D)} {g : Tgt} {mc : EM Bool} {me : EM Rs}
theorem t_yes : PTs X [] (tT X.K cx W (ret true)) := ⟨fun pins s σ H Q I h => by
  obtain ⟨T, env, t, I0, L, h⟩ := h
  exact pts_nil.run pins s σ H Q I (h T H Fr.refl I0 (L.mono (Nat.le_succ t)))⟩
theorem t_ifs {c : Expr} (h : PT X c (tT X.K cx W mc)) : PTs X [c] (tT X.K cx W mc) := pts_one h
theorem m_lc (hN : X.N.Nodup) (hi : PI X tg iter (tI X.K cx W mi)) (ok : blkC X.N X.env.scope scope own = true)
    (hg : ∀ (s : Shared) (H : Hp) (C : Addr) (cl : List (Str × Addr)) (fp : List Addr), PG (X.blk s H scope (compEnvC scope cl C X.env) fp) tg (tG X.K (ownP (own.map (·.2))) g)) (ht : ∀ (s : Shared) (H : Hp) (C : Addr) (cl : List (Str × Addr)) (fp : List Addr), PTs (X.blk s H scope (compEnvC scope cl C X.env) fp) ifs (tT X.K cx W0 mc))
    (he : ∀ (s : Shared) (H : Hp) (C : Addr) (cl : List (Str × Addr)) (fp : List Addr), PE (X.blk s H scope (compEnvC scope cl C X.env) fp) elt (tE X.K cx W0 me)) (hc : X.calm = true := by rfl) (hs : ∀ x, foldedSetIterable iter X.env x = pure x := by intro _; rfl) :
    PE X (.ListComp elt [⟨tg, iter, ifs, 0⟩] scope pos) (tE X.K cx W (eLc mi g mc me (own.map (·.2)))) := PEimp (pe_lc hc hN hi (blkOk_by ok) hg ht he hs) fun _ _ _ h => lc_go h
/-- x = [..], on one line -/
theorem s_asgLc {i : Nat} {y : Str} {py : Pos} (hN : X.N.Nodup) (hi : PI X tg iter (tI X.K cx W mi)) (ok : blkC X.N X.env.scope scope own = true)
    (hg : ∀ (s : Shared) (H : Hp) (C : Addr) (cl : List (Str × Addr)) (fp : List Addr), PG (X.blk s H scope (compEnvC scope cl C X.env) fp) tg (tG X.K (ownP (own.map (·.2))) g)) (ht : ∀ (s : Shared) (H : Hp) (C : Addr) (cl : List (Str × Addr)) (fp : List Addr), PTs (X.blk s H scope (compEnvC scope cl C X.env) fp) ifs (tT X.K cx W0 mc))
    (he : ∀ (s : Shared) (H : Hp) (C : Addr) (cl : List (Str × Addr)) (fp : List Addr), PE (X.blk s H scope (compEnvC scope cl C X.env) fp) elt (tE X.K cx W0 me))
    (hsw : swapsWith (.ListComp elt [⟨tg, iter, ifs, 0⟩] scope pos) (some (.Name y py)) spos.line X.env = pure true) (hp : prot i = false := by rfl) (hy : X.N[i]? = some y := by rfl) (hyl : X.env.scope.names.lookup y = some .local := by rfl) (hc : X.calm = true := by rfl) (hs : ∀ x, foldedSetIterable iter X.env x = pure x := by intro _; rfl) :
    PS X (.Assign [.Name y py] (.ListComp elt [⟨tg, iter, ifs, 0⟩] scope pos) spos) (tS X.K cx W prot (sAsg i (eLc mi g mc me (own.map (·.2))))) := PSimp (ps_setLc hc hN hy hyl hsw hi (blkOk_by ok) hg ht he hs) fun D σ H h => by
  obtain ⟨T, env, I, L, h⟩ := h
  refine lc_go (cx := cx) (W := W) ⟨T, env, 0, I, L, h.bd fun r1 e1 T1 H1 F1 I1 L1 h1 v hv => ?_⟩
  unfold bd at h1
  cases q : hold r1 e1 with
  | stuck => rw [q] at h1; exact h1.elim
  | ex c e' => exact absurd q hold_noex
  | ok o e2 =>
    rw [q] at h1
    obtain ⟨z, F2, I2, L2, r2, _⟩ := hold_ok F1 I1 L1 hv q
    exact h1 _ H1 _ (fr_retag (t := 0) (i := i) F2 L) (I2.setO r2) (lt_retag L2) (Pt.set hp)
end

/-! ### calls with keywords -/
def pick {α : Type} (perm : List Nat) (xs : List α) : List α := perm.filterMap fun i => xs[i]?
theorem picks {K : PySem.W.Frag} {σ : L2.St} {T : TM} {H : Hp} {t : Nat} {rs : List Rs} {vs : List V} (h : RsReps K σ T H t rs vs) : ∀ perm : List Nat, RsReps K σ T H t (pick perm rs) (pick perm vs)
  | [] => rfl
  | i :: perm => by
    have at_ : ∀ {rs : List Rs} {vs : List V} {i : Nat}, RsReps K σ T H t rs vs → (rs[i]? = none ∧ vs[i]? = none) ∨ ∃ r v, rs[i]? = some r ∧ vs[i]? = some v ∧ RsRep K σ T H t r v := by
      intro rs
      induction rs with
      | nil => intro vs i h; cases (show vs = [] from h); exact .inl ⟨by simp, by simp⟩
      | cons r rs ih =>
        intro vs i h
        obtain ⟨v, ws, rfl, h1, h2⟩ := h
        cases i with
        | zero => exact .inr ⟨r, v, rfl, rfl, h1⟩
        | succ i => simpa using ih h2
    have r := picks h perm
    unfold pick at r ⊢
    rcases at_ (i := i) h with ⟨a, b⟩ | ⟨x, v, a, b, q⟩
    · rw [List.filterMap_cons, List.filterMap_cons, a, b]; exact r
    · rw [List.filterMap_cons, List.filterMap_cons, a, b]; exact ⟨v, _, rfl, q, r⟩
theorem picks_opn {rs : List Rs} (h : Opn rs) (perm : List Nat) : Opn (pick perm rs) := fun r hr => by
  unfold pick at hr
  obtain ⟨i, _, e⟩ := List.mem_filterMap.mp hr
  exact h r (List.mem_of_getElem? e)
theorem rs_app {K : PySem.W.Frag} {σ : L2.St} {T : TM} {H : Hp} {t : Nat} : ∀ {rs rs2 : List Rs} {vs vs2 : List V}, RsReps K σ T H t rs vs → RsReps K σ T H t rs2 vs2 → RsReps K σ T H t (rs ++ rs2) (vs ++ vs2)
  | [], _, _, _, h, g => by cases h; exact g
  | r :: rs, _, _, _, h, g => by
    obtain ⟨v, ws, rfl, h1, h2⟩ := h
    exact ⟨v, _, rfl, h1, rs_app h2 g⟩
theorem rs_held {K : PySem.W.Frag} {σ : L2.St} {T T1 : TM} {H H1 : Hp} {t t' : Nat} (F : Fr T T1 H H1) : ∀ {rs : List Rs} {vs : List V}, Opn rs → RsReps K σ T H t rs vs → RsReps K σ T1 H1 t' rs vs
  | [], _, _, h => h
  | r :: rs, _, op, h => by
    obtain ⟨v, ws, rfl, h1, h2⟩ := h
    obtain ⟨r0, e⟩ := op r List.mem_cons_self
    subst e
    exact ⟨v, ws, rfl, held h1 F, rs_held F (fun x hx => op x (List.mem_cons_of_mem _ hx)) h2⟩
def evK (perm : List Nat) (ms ks : List (EM Rs)) : EM (List Rs) := bd (evs ms) fun r1 => bd (evs ks) fun r2 => ret (pick perm (r1 ++ r2))
def callK (cm : List O → CR) (mask : List Bool) (perm : List Nat) (ms ks : List (EM Rs)) : EM Rs := bd (evK perm ms ks) fun rs => bd (prep mask rs) fun os => fun e => match cm os with
  | .ok o outs => .ok (.v o) (backTo (insOf mask rs) 0 outs e)
  | .ex c outs => .ex c (backTo (insOf mask rs) 0 outs e)
  | .stuck => .stuck
section
variable {X : Cx} {cx : Nat → Addr} {W : WX} {k : Nat} {f : Addr} {fd : FuncData} {ps ks : List Str} {mask : List Bool} {cm : List O → CR} {x : Str} {p pos kpos : Pos} {e : Expr} {es : List Expr} {kws : List Keyword} {ms mks : List (EM Rs)} {me : EM Rs} {perm : List Nat} {nm : Option Str}
theorem k_nil : PK X [] (tA X.K cx W (evs [])) := PKimp pk_nil fun σ H Q h => by
  obtain ⟨T, env, t, I, L, h⟩ := h
  exact h T H Fr.refl I (L.mono (Nat.le_succ _)) [] rfl
theorem k_cons (ha : PE X e (tE X.K cx W me)) (hr : PK X kws (tA X.K cx W (evs ms))) : PK X (⟨nm, e, kpos⟩ :: kws) (tA X.K cx W (evs (me :: ms))) :=
  PKimp (pk_cons ha hr) fun σ H Q h => by
  obtain ⟨T, env, t, I, L, h⟩ := h
  refine ⟨T, env, t, I, L, h.bd fun r1 e1 T1 H1 F1 I1 L1 h1 v hv => ?_⟩
  obtain ⟨F1', I1', L1', hv'⟩ := settle L F1 I1 L1 hv
  refine ⟨_, e1, t, I1', L1', (h1.step F1').bd fun rs e2 T2 H2 F2 I2 L2 h2 vs hvs => ?_⟩
  exact h2.use F2 I2 L2 _ ⟨v, vs, rfl, held hv' F2, hvs⟩
/-- how a call with keywords binds -/
def KB (K : PySem.W.Frag) (fd : FuncData) (ps ks : List Str) (a : Nat) (perm : List Nat) : Prop := ∀ (s : Shared) (us ws : List Value), K.In s.heap → us.length = a → ws.length = ks.length → BindsTo s fd ⟨us, ks.zip ws⟩ (ps.zip (pick perm (us ++ ws)))
theorem vals_pick {vs : List V} {us : List Value} (h : Vals vs us) : ∀ perm : List Nat, Vals (pick perm vs) (pick perm us)
  | [] => .nil
  | i :: perm => by
    have r := vals_pick h perm
    unfold pick at r ⊢
    cases e : vs[i]? with
    | none => rw [List.filterMap_cons, List.filterMap_cons, e, h.none_of e]; exact r
    | some v =>
      obtain ⟨u, eu, rv⟩ := h.get e
      rw [List.filterMap_cons, List.filterMap_cons, e, eu]
      exact .cons rv r
theorem run_kw {σ : L2.St} {pins : List (Addr × Obj)} {H : Hp} {s : Shared} {Q : VK} {us ws : List Value} {vs zs : List V} {sp : Sp} {E : L2.St → XK} {a : Nat} (F : FnOk X.prog X.w X.K X.mg X.base (L2.CX X.prog X.w) k f fd ps sp) (hr : Room k X.A) (hb : KB X.K fd ps ks a perm) (hx : PassesAt (L2.CX X.prog X.w) X σ (E σ))
    (I : Inv X pins σ H s) (r : Vals vs us) (rz : Vals zs ws) (l1 : us.length = a) (l2 : ws.length = ks.length) (h : sp (pick perm (vs ++ zs)) H Q (E σ)) : wpAny (model X.prog X.w) X.A (call (.ref f) us (ks.zip ws)) (EP X pins σ Q) X.xe s := by
  refine wpAny_call (codeAny_mono (F.run X.A X.stack s H ⟨us, ks.zip ws⟩ _ _ Q (E σ) hr I.env0 (hb s us ws I.kIn l1 l2) (vals_pick (r.append rz) perm) h) fun res s' hq => ?_)
  cases res with
  | error er => exact hx pins H s er s' I hq
  | ok fl =>
    cases fl with
    | ret u => exact I.after hq
    | _ => exact hq.elim
def tCallKS (sp : Sp) (perm : List Nat) (a b : Nat) (E : L2.St → XK) (t tk : TA) : TE := fun σ H Q => t σ H fun vs H1 => tk σ H1 fun zs H2 => vs.length = a ∧ zs.length = b ∧ sp (pick perm (vs ++ zs)) H2 Q (E σ)
theorem pe_kw {sp : Sp} {E : L2.St → XK} {a : Nat} {t tk : TA} (F : FnOk X.prog X.w X.K X.mg X.base (L2.CX X.prog X.w) k f fd ps sp) (hr : Room k X.A) (hg : Gl X x) (hm : X.mg x = some (.ref f)) (hk : PySem.W.keepIn X.K (.ref f) = true) (hb : KB X.K fd ps ks a perm) (hx : ∀ σ, PassesAt (L2.CX X.prog X.w) X σ (E σ))
    (ha : PA X (e :: es) t) (hkw : PK X kws tk) (hall : (backToKw pos (keywordEach kws X.env)).all (·.1.isSome) = true := by rfl) (hks : (backToKw pos (keywordEach kws X.env)).filterMap (·.1) = ks := by rfl) (hdb : (x == ("__debug__" : Str)) = false := by decide)
    (he : starEach (e :: es) X.env = (false, eval e X.env) :: starEach es X.env := by rfl) (hpl : ((PySem.backTo pos (starEach (e :: es) X.env)).any (·.1) || (backToKw pos (keywordEach kws X.env)).any (·.1.isNone)) = false := by rfl) :
    PE X (.Call (.Name x p) (e :: es) kws pos) (tCallKS sp perm a ks.length E t tk) := ⟨fun pins s σ H Q I h => by
  refine wpAny_Call_Name_kw (ld_glob I hg hm (PySem.W.callWith_KW (h₀ := X.base) I.ok.mod.kin hk hall ?_ hpl he) hdb)
  refine thn (ha.run pos pins s σ H _ I h) fun us s1 q1 => ?_
  obtain ⟨vs, H1, I1, r, q⟩ := q1
  refine thn (hkw.run pos pins s1 σ H1 _ I1 q) fun ws s2 q2 => ?_
  obtain ⟨zs, H2, I2, rz, l1, l2, q2⟩ := q2
  refine ⟨I2.kIn, ?_⟩
  rw [hks]
  exact run_kw (us := us) F hr hb (hx σ) I2 r rz (r.length.symm.trans l1) (rz.length.symm.trans l2) q2⟩
theorem pe_kw0 {sp : Sp} {E : L2.St → XK} {tk : TA} (F : FnOk X.prog X.w X.K X.mg X.base (L2.CX X.prog X.w) k f fd ps sp) (hr : Room k X.A) (hg : Gl X x) (hm : X.mg x = some (.ref f)) (hk : PySem.W.keepIn X.K (.ref f) = true) (hb : KB X.K fd ps ks 0 perm) (hx : ∀ σ, PassesAt (L2.CX X.prog X.w) X σ (E σ))
    (hkw : PK X kws tk) (hall : (backToKw pos (keywordEach kws X.env)).all (·.1.isSome) = true := by rfl) (hks : (backToKw pos (keywordEach kws X.env)).filterMap (·.1) = ks := by rfl) (hdb : (x == ("__debug__" : Str)) = false := by decide)
    (hpl : ((PySem.backTo pos (starEach [] X.env)).any (·.1) || (backToKw pos (keywordEach kws X.env)).any (·.1.isNone)) = false := by rfl) :
    PE X (.Call (.Name x p) [] kws pos) (tCallKS sp perm 0 ks.length E tNil tk) := ⟨fun pins s σ H Q I h => by
  refine wpAny_Call_Name_kw (ld_glob I hg hm (PySem.W.callWith_KW0 (h₀ := X.base) I.ok.mod.kin hk hall ?_ hpl) hdb)
  refine thn (hkw.run pos pins s σ H _ I h) fun ws s2 q2 => ?_
  obtain ⟨zs, H2, I2, rz, l1, l2, q2⟩ := q2
  refine ⟨I2.kIn, ?_⟩
  rw [hks]
  exact run_kw (us := []) (vs := []) F hr hb (hx σ) I2 .nil rz rfl (rz.length.symm.trans l2) q2⟩
theorem RsReps_len {K : PySem.W.Frag} {σ : L2.St} {T : TM} {H : Hp} {t : Nat} : ∀ {rs : List Rs} {vs : List V}, RsReps K σ T H t rs vs → vs.length = rs.length
  | [], _, h => by cases h; rfl
  | r :: rs, _, h => by
    obtain ⟨v, ws, rfl, _, h2⟩ := h
    simp [RsReps_len h2]
theorem evK_go {σ : L2.St} {H : Hp} {Q : List V → Hp → Prop} (h : tA X.K cx W (evK perm ms mks) σ H Q) : tA X.K cx W (evs ms) σ H fun vs H1 => tA X.K cx W (evs mks) σ H1 fun zs H2 => vs.length = ms.length ∧ zs.length = mks.length ∧ Q (pick perm (vs ++ zs)) H2 := by
  obtain ⟨T, env, t, I, L, h⟩ := h
  refine ⟨T, env, t, I, L, ?_⟩
  unfold Wk evK bd at h
  cases q1 : evs ms env with
  | stuck => rw [q1] at h; exact h.elim
  | ex c e' => rw [q1] at h; exact h
  | ok r1 e1 =>
    rw [q1] at h
    dsimp only at h
    obtain ⟨op1, n1⟩ := evs_opn q1
    intro T1 H1 F1 I1 L1 vs hvs
    obtain ⟨F1', I1', L1'⟩ := clean L F1 I1 L1
    have hvs' := opns_untag (q := isTm t) op1 hvs
    refine ⟨_, e1, t, I1', L1', ?_⟩
    cases q2 : evs mks e1 with
    | stuck => rw [q2] at h; exact h.elim
    | ex c e' => rw [q2] at h; exact fun T' H' F' I' L' => h T' H' (F1'.trans F') I' L'
    | ok r2 e2 =>
      rw [q2] at h
      obtain ⟨op2, n2⟩ := evs_opn q2
      intro T2 H2 F2 I2 L2 zs hzs
      refine ⟨by rw [RsReps_len hvs, n1], by rw [RsReps_len hzs, n2], h T2 H2 (F1'.trans F2) I2 L2 _ (picks (rs_app (rs_held F2 op1 hvs') hzs) perm)⟩
theorem evK_opn {env e1 : Env} {rs : List Rs} (h : evK perm ms mks env = .ok rs e1) : Opn rs := by
  unfold evK bd at h
  split at h
  · rename_i r1 e2 q1
    try dsimp only at h
    split at h
    · rename_i r2 e3 q2
      simp only [ret, MI.R.ok.injEq] at h
      obtain ⟨rfl, _⟩ := h
      refine picks_opn (fun r hr => ?_) perm
      rcases List.mem_append.mp hr with z | z
      · exact (evs_opn q1).1 r z
      · exact (evs_opn q2).1 r z
    · cases h
    · cases h
  · cases h
  · cases h
theorem m_callk (F : FF X.prog X.w X.K X.mg X.base cx k x f fd ps mask cm) (hr : Room k X.A) (tk : Takes X W) (hb : KB X.K fd ps ks ms.length perm) (ha : PA X (e :: es) (tA X.K cx W (evs ms))) (hkw : PK X kws (tA X.K cx W (evs mks))) (hl : mks.length = ks.length := by rfl) (hg : Gl X x := by rfl)
    (hall : (backToKw pos (keywordEach kws X.env)).all (·.1.isSome) = true := by rfl) (hks : (backToKw pos (keywordEach kws X.env)).filterMap (·.1) = ks := by rfl) (hdb : (x == ("__debug__" : Str)) = false := by decide)
    (he : starEach (e :: es) X.env = (false, eval e X.env) :: starEach es X.env := by rfl) (hpl : ((PySem.backTo pos (starEach (e :: es) X.env)).any (·.1) || (backToKw pos (keywordEach kws X.env)).any (·.1.isNone)) = false := by rfl) :
    PE X (.Call (.Name x p) (e :: es) kws pos) (tE X.K cx W (callK cm mask perm ms mks)) := PEimp (pe_kw F.ok hr hg F.gl F.kp hb (fun σ => passAt tk σ) ha hkw hall hks hdb he hpl) fun σ H Q h => by
  have := evK_go (callU_go (fun _ _ _ q => evK_opn q) h)
  rw [hl] at this
  exact this
theorem m_callk0 (F : FF X.prog X.w X.K X.mg X.base cx k x f fd ps mask cm) (hr : Room k X.A) (tk : Takes X W) (hb : KB X.K fd ps ks 0 perm) (hkw : PK X kws (tA X.K cx W (evs mks))) (hl : mks.length = ks.length := by rfl) (hg : Gl X x := by rfl)
    (hall : (backToKw pos (keywordEach kws X.env)).all (·.1.isSome) = true := by rfl) (hks : (backToKw pos (keywordEach kws X.env)).filterMap (·.1) = ks := by rfl) (hdb : (x == ("__debug__" : Str)) = false := by decide)
    (hpl : ((PySem.backTo pos (starEach [] X.env)).any (·.1) || (backToKw pos (keywordEach kws X.env)).any (·.1.isNone)) = false := by rfl) :
    PE X (.Call (.Name x p) [] kws pos) (tE X.K cx W (callK cm mask perm [] mks)) := PEimp (pe_kw0 F.ok hr hg F.gl F.kp hb (fun σ => passAt tk σ) hkw hall hks hdb hpl) fun σ H Q h => by
  have := evK_go (callU_go (fun _ _ _ q => evK_opn q) h)
  rw [hl] at this
  obtain ⟨T, env, t, I, L, h⟩ := this
  obtain ⟨T2, e2, t2, I2, L2, h2⟩ := h T H Fr.refl I (L.mono (Nat.le_succ _)) [] rfl
  exact ⟨T2, e2, t2, I2, L2, h2⟩ |> fun z => z
end

/-! ### a function's body -/
def fnCR (body : SM) (n : Nat) (args : List O) : CR := match body (args.map some ++ List.replicate (n - args.length) none) with
  | .ok (.rt o) e => .ok o e
  | .ok .nx e => .ok (.s .non) e
  | .ex c e => .ex c e
  | _ => .stuck
def protOf (mask : List Bool) : Nat → Bool := fun j => mask[j]? == some true
section
variable {P : Program} {w : World} {K : PySem.W.Frag} {mg : Str → Option Value} {base : Heap} {cx : Nat → Addr}
theorem fn_ok {x qual : Str} {st : Stmt} {f : Addr} {fd : FuncData} {N ps : List Str} {k : Nat} {mask : List Bool} {body : SM} (F : Fun K x qual st f fd) (Sc : FnScope N ps (defScope st)) (hm : mask.length = ps.length)
    (hbody : ∀ (cdv : Value) (A : Around) (outer : List PySem.Env) (s : Shared) (H : Hp) (E : XK), Room k (A.deeper (PyProof.Rows.envOfC qual (defScope st) s.heap.objs.size f cdv)) →
      PSs (cxOf (L2.CX P w) P w K mg base N qual (defScope st) f cdv A outer s H E) (defBody st) (tS K cx (fun cls d _ H' => E cls d H') (protOf mask) body)) : FnOk P w K mg base (L2.CX P w) (k + 1) f fd ps (spM K cx mask (fnCR body N.length)) := by
  refine F.okX Sc (fun vs H Q E h => ?_) (fun cdv A outer s H vs Q E hr h => ⟨_, hbody cdv A outer s H E hr, ?_⟩)
  · obtain ⟨T, args, l1, l2, _⟩ := h
    exact l2.trans hm
  · obtain ⟨T, args, l1, l2, ra, lt, h⟩ := h
    have hpl : ps.length ≤ N.length := by have := congrArg List.length Sc.pre; rw [List.length_take] at this; omega
    have sl : ∀ (j : Nat) (v : V), j < vs.length → ((L2.start N vs)[j]? = some (some v) ↔ vs[j]? = some v) := fun j v hj => by
      unfold L2.start
      rw [List.getElem?_append_left (by simpa using hj), List.getElem?_map]
      cases e : vs[j]? with
      | none => simp
      | some u => simp
    have I : EI K T H (args.map some ++ List.replicate (N.length - args.length) none) (L2.start N vs) := by
      refine ⟨by unfold L2.start; simp; omega, fun j o e => ?_⟩
      by_cases hj : j < args.length
      · rw [List.getElem?_append_left (by simpa using hj), List.getElem?_map] at e
        cases ea : args[j]? with
        | none => rw [ea] at e; cases e
        | some o' =>
          rw [ea] at e
          simp only [Option.map_some, Option.some.injEq] at e
          subst e
          obtain ⟨v, hv, r⟩ := ra j o' ea
          exact ⟨v, (sl j v (by omega)).mpr hv, r⟩
      · rw [List.getElem?_append_right (by simpa using hj), List.getElem?_replicate] at e
        split at e <;> cases e
    refine ⟨T, _, I, lt, ?_⟩
    have outs : ∀ {T' : TM} {H' : Hp} {σ' : L2.St} {e' : Env}, EI K T' H' e' σ' → Pt (protOf mask) (L2.start N vs) σ' → ∀ j o, mask[j]? = some true → (e'[j]?).join = some o → ∃ v, vs[j]? = some v ∧ RepO K T' H' o (.sl j) [] v := fun {T' H' σ' e'} I' P' j o hj ho => by
      obtain ⟨v, e1, r⟩ := I'.at_ j o (by simpa only [Option.join_eq_some_iff] using ho)
      have hlt : j < vs.length := by have := (List.getElem?_eq_some_iff.mp hj).1; omega
      rw [P' j (by simp [protOf, hj])] at e1
      exact ⟨v, (sl j v hlt).mp e1, r⟩
    unfold fnCR at h
    cases q : body (args.map some ++ List.replicate (N.length - args.length) none) with
    | stuck => rw [q] at h; exact h.elim
    | ex c e' =>
      rw [q] at h
      exact fun T' H' σ' F' I' L' P' => h T' H' F' L' (outs I' P')
    | ok fl e' =>
      rw [q] at h
      cases fl with
      | nx => exact fun T' H' σ' F' I' L' P' => h .non T' H' F' (L'.mono (Nat.zero_le 1)) (by simp only [RepO, RepD]) (outs I' P')
      | bk => exact h.elim
      | ct => exact h.elim
      | rt o => exact fun v T' H' σ' F' I' L' P' r => h v T' H' F' L' r (outs I' P')
end
end MI
/-! MiTup: t[::-1], t a tuple. -/
namespace HT
open PySem PySem.Spec PyProof.Rows
section
variable {prog : Program} {w : World} {A : Around} {E : Value → Shared → Prop} {s : Shared}
theorem applied_rev {sl : Addr} {vl vu vs : Value} {n : Nat} {Q : Int × Int × Nat → Shared → Prop} (hs : s.heap.IsSliceOf sl vl vu vs) (pl : IsPart vl none) (pu : IsPart vu none) (ps : IsPart vs (some (-1)))
    (q : Q ((n : Int) - 1, -1, n) s) : wpAny (model prog w) A (Builtin.Slice.sliceApplied (.ref sl) (pure (n : Int))) Q E s := by
  obtain ⟨os, hos, hcs, hds⟩ := id hs
  unfold Builtin.Slice.sliceApplied Builtin.Slice.sliceFields
  refine wpAny_bind (wpAny_bind (wpAny_field hos hds (x := vl) rfl (wpAny_bind (wpAny_field hos hds (x := vu) rfl (wpAny_bind (wpAny_field hos hds (x := vs) rfl (wpAny_pure ?_))))))); dsimp only
  refine wpAny_bind (slicePart_ ps ?_)
  show wpAny _ _ (if ((-1 : Int) == 0) = true then _ else _) _ _ s
  rw [if_neg (by decide)]
  refine wpAny_bind (slicePart_ pl (wpAny_bind (slicePart_ pu (wpAny_bind (wpAny_pure ?_)))))
  have e : Builtin.Slice.sliceAdjust none none (-1) (n : Int) = ((n : Int) - 1, -1) := by
    simp [Builtin.Slice.sliceAdjust]
  have e2 : Builtin.Slice.slicePlaces ((n : Int) - 1) (-1) (-1) = n := by
    unfold Builtin.Slice.slicePlaces
    simp
    try omega
  show wpAny _ _ (match Builtin.Slice.sliceAdjust none none (-1) (n : Int) with | (lo, hi) => pure (lo, (-1 : Int), Builtin.Slice.slicePlaces lo hi (-1))) _ _ s
  rw [e]
  show wpAny _ _ (pure ((n : Int) - 1, (-1 : Int), Builtin.Slice.slicePlaces ((n : Int) - 1) (-1) (-1))) _ _ s
  rw [e2]
  exact wpAny_pure q
theorem pick_rev (xs : Array Value) : ((List.range xs.size).filterMap fun (k : Nat) => xs[(((xs.size : Nat) : Int) - 1 + (k : Int) * (-1)).toNat]?) = xs.toList.reverse := by
  have : ∀ (l : List Value) (n : Nat), n = l.length → ((List.range n).filterMap fun (k : Nat) => l[(((n : Nat) : Int) - 1 + (k : Int) * (-1)).toNat]?) = l.reverse := by
    intro l n hn
    apply List.ext_getElem?
    intro i
    have fm : ∀ (m : Nat), m ≤ n → ((List.range m).filterMap fun (k : Nat) => l[(((n : Nat) : Int) - 1 + (k : Int) * (-1)).toNat]?) = (l.reverse).take m := by
      intro m
      induction m with
      | zero => intro _; rfl
      | succ m ih =>
        intro hm
        have e : (((n : Nat) : Int) - 1 + (m : Int) * (-1)).toNat = n - 1 - m := by omega
        have hlt : n - 1 - m < l.length := by omega
        have g : (fun (k : Nat) => l[(((n : Nat) : Int) - 1 + (k : Int) * (-1)).toNat]?) m = some l[n - 1 - m] := by
          show l[(((n : Nat) : Int) - 1 + (m : Int) * (-1)).toNat]? = _
          rw [e]; exact List.getElem?_eq_getElem hlt
        have hr : m < l.reverse.length := by rw [List.length_reverse]; omega
        have g1 : ([m].filterMap fun (k : Nat) => l[(((n : Nat) : Int) - 1 + (k : Int) * (-1)).toNat]?) = [l[n - 1 - m]] := by
          rw [List.filterMap_cons_some (f := fun (k : Nat) => l[(((n : Nat) : Int) - 1 + (k : Int) * (-1)).toNat]?) g]; rfl
        rw [List.range_succ, List.filterMap_append, ih (Nat.le_of_succ_le hm), g1, List.take_succ, List.getElem?_eq_getElem hr, List.getElem_reverse, Option.toList_some]
        congr 3
        omega
    rw [fm n (Nat.le_refl _), List.take_of_length_le (by rw [List.length_reverse]; omega)]
  have := this xs.toList xs.size (by simp)
  simpa using this
theorem getItem_tuple_rev {t sl : Addr} {items : Array Value} {vl vu vs : Value} {Q : Value → Shared → Prop} (ht : IsTup s.heap t items) (hs : s.heap.IsSliceOf sl vl vu vs) (pl : IsPart vl none) (pu : IsPart vu none) (ps : IsPart vs (some (-1)))
    (q : Q (.ref s.heap.objs.size) { s with heap := s.heap.push { cls := .type "tuple", data := .seq items.toList.reverse.toArray } }) (hsz : items.size ≤ sizeLine) : wpAny (model prog w) A (getItem (.ref t) (.ref sl)) Q E s := by
  have ok : sizeOk (.seq items.toList.reverse.toArray) := by
    show items.toList.reverse.toArray.size ≤ sizeLine
    simpa using hsz
  obtain ⟨os, hos, hcs, hds⟩ := id hs
  have hTs : s.TypeIs (.ref sl) "slice" := ⟨os, hos, hcs⟩
  unfold getItem
  try with_reducible refine wpAny_holding ?_
  first | refine wpAny_bind (wpAny_pure ?_) | skip
  refine wpAny_bind (wpAny_sequenceKey ht.typeIs (by decide) ?_)
  refine wpAny_bind (wpAny_callSpecial?_slot (name := Str.ofString "__getitem__") ht.typeIs PyProof.Rows.slot_tuple_getitem (wpAny_call_entry PyProof.Rows.slot_tuple_getitem ht.typeIs entry_tuple_getitem ?_ (args_tuple_getitem _ _)))
  show wpAny _ _ (Builtin.Tuple.tupleItemsOf (.ref t) >>= _) _ _ s
  refine wpAny_bind (tupleItemsOf_ ht (wpAny_bind (wpAny_typeOf hTs ?_)))
  rw [if_pos (by decide)]
  refine wpAny_bind (applied_rev hs pl pu ps ?_)
  have no : ¬ ((((items.size : Int) - 1) == 0 && (-1 : Int) == 1 && items.size == items.size) = true) := by simp
  show wpAny _ _ (if ((((items.size : Int) - 1) == 0 && (-1 : Int) == 1 && items.size == items.size) = true) then _ else _) _ _ s
  rw [if_neg no, pick_rev]
  first
    | exact wpAny_bind (m := Builtin.Tuple.tupleExact _) (wpAny_newObj_type (wpAny_pure ⟨_, rfl, wpAny_pure q⟩) ok)
    | exact wpAny_bind (m := Builtin.Tuple.tupleExact _) (wpAny_newObj_type (wpAny_bind (wpAny_pure (wpAny_pure ⟨_, rfl, wpAny_pure q⟩))) ok)
    | exact wpAny_bind (wpAny_bind (m := Builtin.Tuple.tupleExact _) (wpAny_newObj_type (wpAny_pure (wpAny_pure ⟨_, rfl, wpAny_pure q⟩)) ok))
    | exact wpAny_bind (wpAny_bind (m := Builtin.Tuple.tupleExact _) (wpAny_newObj_type (wpAny_pure ⟨_, rfl, wpAny_pure q⟩) ok))
end
end HT
/-! MiOps: operators and built-ins upon values. -/
namespace MI
open PySem L2

/-! ### what an operand is -/
def lstO : O → Option (List D)
  | .s (.lst ds) => some ds
  | .l os => allS os
  | _ => none
section
variable {K : PySem.W.Frag} {T : TM} {H : Hp} {t : Nat} {o : O} {v : V}
abbrev Is (K : PySem.W.Frag) (T : TM) (H : Hp) (o : O) (v : V) : Prop := ∃ rt p, RepO K T H o rt p v
theorem is_int {i : Int} (h : Is K T H (.s (.int i)) v) : v = .int i := by obtain ⟨r, p, h⟩ := h; simpa only [RepO, RepD] using h
theorem is_bl {i : Bool} (h : Is K T H (.s (.bl i)) v) : v = .bl i := by obtain ⟨r, p, h⟩ := h; simpa only [RepO, RepD] using h
theorem is_str {x : List Nat} (h : Is K T H (.s (.str x)) v) : v = strV x ∧ SOk x := by obtain ⟨r, p, h⟩ := h; simpa only [RepO, RepD] using h
theorem is_d {d : D} (h : Is K T H (.s d) v) : RepD K (S T H) d v := by obtain ⟨r, p, h⟩ := h; simpa only [RepO] using h
theorem is_lst {ds : List D} (h : Is K T H o v) (e : lstO o = some ds) : ∃ a vs, v = .ref a ∧ H a = some (.lst vs) ∧ RepDs K (S T H) ds vs := by
  obtain ⟨r, p, h⟩ := h
  unfold lstO at e
  split at e
  · simp only [Option.some.injEq] at e
    subst e
    simp only [RepO, RepD] at h
    obtain ⟨a, vs, rfl, q, z⟩ := h
    exact ⟨a, vs, rfl, (S_some.mp q).2, z⟩
  · rename_i os
    have := allS_map e
    subst this
    simp only [RepO] at h
    obtain ⟨a, vs, rfl, _, q, z⟩ := h
    exact ⟨a, vs, rfl, q, RepOs_ds z⟩
  · cases e
theorem out_int {i : Int} : RepO K T H (.s (.int i)) (.tm t) [] (.int i) := by simp only [RepO, RepD]
theorem out_bl {i : Bool} : RepO K T H (.s (.bl i)) (.tm t) [] (.bl i) := by simp only [RepO, RepD]
theorem out_non : RepO K T H (.s .non) (.tm t) [] .non := by simp only [RepO, RepD]
theorem out_str {x : List Nat} (h : SOk x) : RepO K T H (.s (.str x)) (.tm t) [] (strV x) := by simp only [RepO, RepD]; first | exact ⟨rfl, h⟩ | exact ⟨trivial, h⟩ | exact h
theorem out_d {d : D} (h : RepD K (S T H) d v) : RepO K T H (.s d) (.tm t) [] v := by simpa only [RepO] using h
/-- a new list -/
theorem out_lst {ds : List D} {vs : List V} {p : Addr} (hp : H p = none) (L : Lt (t + 1) T) (r : RepDs K (S T H) ds vs) : Gr T (put T p (some (.tm t, []))) H (upd H p (.lst vs)) ∧ Lt (t + 1) (put T p (some (.tm t, []))) ∧ RepO K (put T p (some (.tm t, []))) (upd H p (.lst vs)) (.l (ds.map .s)) (.tm t) [] (.ref p) := by
  refine ⟨Gr.new hp (by simp), L.put (by simp), ?_⟩
  simp only [RepO]
  refine ⟨p, vs, rfl, put_same, upd_same, RepDs_os (RepDs_mono (fun b o e => ?_) ds vs r)⟩
  obtain ⟨e1, e2⟩ := S_some.mp e
  exact S_some.mpr ⟨by rw [put_ne (ne_of_none e2 hp)]; exact e1, by rw [upd_ne (ne_of_none e2 hp)]; exact e2⟩
/-- a new tuple -/
theorem out_tup {ds : List D} {vs : List V} {p : Addr} (hp : H p = none) (L : Lt (t + 1) T) (r : RepDs K (S T H) ds vs) : Gr T (put T p none) H (upd H p (.tup vs)) ∧ Lt (t + 1) (put T p none) ∧ RepO K (put T p none) (upd H p (.tup vs)) (.s (.tup ds)) (.tm t) [] (.ref p) := by
  obtain ⟨g, l, z⟩ := new_tup (K := K) hp r
  exact ⟨g, l _ L, by simpa only [RepO] using z⟩
end

/-! ### numbers -/
def fSub : O → O → Option O
  | .s (.int i), .s (.int j) => some (.s (.int (i - j)))
  | _, _ => none
def fMul : O → O → Option O
  | .s (.int i), .s (.int j) => if (decide (-18446744073709551616 < i) && decide (i < 18446744073709551616)) || (decide (-18446744073709551616 < j) && decide (j < 18446744073709551616)) then some (.s (.int (i * j))) else none
  | .l os, .s (.int k) => match allS os with
    | some ds => if decide (-9223372036854775808 ≤ k) && decide (k < 9223372036854775808) && decide (ds.length * k.toNat ≤ 16777216) then some (.l ((List.replicate k.toNat ds).flatten.map .s)) else none
    | none => none
  | _, _ => none
def fDiv : O → O → Option O
  | .s (.int i), .s (.int j) => if decide (j ≠ 0) && decide (j.natAbs < 1073741824) then some (.s (.int (i.fdiv j))) else none
  | _, _ => none
def fMod : O → O → Option O
  | .s (.int i), .s (.int j) => if decide (j ≠ 0) then some (.s (.int (i.fmod j))) else none
  | _, _ => none
def fPow : O → O → Option O
  | .s (.int i), .s (.int j) => if decide (0 ≤ j) && decide (j ≤ 1000000) && decide (i.natAbs < 18446744073709551616) then some (.s (.int (i ^ j.toNat))) else none
  | _, _ => none
def fNeg : O → Option O
  | .s (.int i) => some (.s (.int (-i)))
  | _ => none
def gLt : O → O → Option Bool
  | .s (.int i), .s (.int j) => some (decide (i < j))
  | _, _ => none
def gLe : O → O → Option Bool
  | .s (.int i), .s (.int j) => some (decide (i ≤ j))
  | _, _ => none
def gGt : O → O → Option Bool
  | .s (.int i), .s (.int j) => some (decide (j < i))
  | _, _ => none
def gGe : O → O → Option Bool
  | .s (.int i), .s (.int j) => some (decide (j ≤ i))
  | _, _ => none
section
variable {K : PySem.W.Frag}
theorem ok_sub : OpOk K fSub (rI0 fun i j => .int (i - j)) := fun T H t a b o v w Q L ha hb e k => by
  unfold fSub at e
  split at e
  · cases e
    exact ⟨_, _, is_int ha, is_int hb, k _ T H Gr.refl L out_int⟩
  · cases e
theorem ok_div : OpOk K fDiv (rI CDivN fun i j => .int (i.fdiv j)) := fun T H t a b o v w Q L ha hb e k => by
  unfold fDiv at e
  split at e
  · split at e
    · rename_i q
      cases e
      simp only [Bool.and_eq_true, decide_eq_true_eq] at q
      exact ⟨_, _, is_int ha, is_int hb, q, k _ T H Gr.refl L out_int⟩
    · cases e
  · cases e
theorem ok_mod : OpOk K fMod (rI (fun _ j => j ≠ 0) fun i j => .int (i.fmod j)) := fun T H t a b o v w Q L ha hb e k => by
  unfold fMod at e
  split at e
  · split at e
    · rename_i q
      cases e
      simp only [decide_eq_true_eq] at q
      exact ⟨_, _, is_int ha, is_int hb, q, k _ T H Gr.refl L out_int⟩
    · cases e
  · cases e
theorem ok_pow : OpOk K fPow (rI CPow fun i j => .int (i ^ j.toNat)) := fun T H t a b o v w Q L ha hb e k => by
  unfold fPow at e
  split at e
  · split at e
    · rename_i q
      cases e
      simp only [Bool.and_eq_true, decide_eq_true_eq] at q
      exact ⟨_, _, is_int ha, is_int hb, ⟨q.1.1, q.1.2, q.2⟩, k _ T H Gr.refl L out_int⟩
    · cases e
  · cases e
theorem ok_neg : OpOk1 K fNeg (rU fun i => .int (-i)) := fun T H t a o v Q L ha e k => by
  unfold fNeg at e
  split at e
  · cases e
    exact ⟨_, is_int ha, k _ T H Gr.refl L out_int⟩
  · cases e
/-- two readings, one for each kind of operands -/
theorem ok_or {f g : O → O → Option O} {r r' : R2} (h : OpOk K f r) (h' : OpOk K g r') : OpOk K (fun a b => match f a b with
  | some o => some o
  | none => g a b) (fun x y H Q => r x y H Q ∨ r' x y H Q) := fun T H t a b o v w Q L ha hb e k => by
  dsimp only at e
  split at e
  · rename_i q
    simp only [Option.some.injEq] at e
    subst e
    exact .inl (h T H t a b _ v w Q L ha hb q k)
  · exact .inr (h' T H t a b o v w Q L ha hb e k)
theorem ok_imp {f g : O → O → Option O} {r : R2} (h : OpOk K f r) (e : ∀ a b o, g a b = some o → f a b = some o) : OpOk K g r := fun T H t a b o v w Q L ha hb q k => h T H t a b o v w Q L ha hb (e a b o q) k
def fMulI : O → O → Option O
  | .s (.int i), .s (.int j) => if (decide (-18446744073709551616 < i) && decide (i < 18446744073709551616)) || (decide (-18446744073709551616 < j) && decide (j < 18446744073709551616)) then some (.s (.int (i * j))) else none
  | _, _ => none
def fRep : O → O → Option O
  | .l os, .s (.int k) => match allS os with
    | some ds => if decide (-9223372036854775808 ≤ k) && decide (k < 9223372036854775808) && decide (ds.length * k.toNat ≤ 16777216) then some (.l ((List.replicate k.toNat ds).flatten.map .s)) else none
    | none => none
  | .s (.lst ds), .s (.int k) => if decide (-9223372036854775808 ≤ k) && decide (k < 9223372036854775808) && decide (ds.length * k.toNat ≤ 16777216) then some (.l ((List.replicate k.toNat ds).flatten.map .s)) else none
  | _, _ => none
theorem ok_mulI : OpOk K fMulI (rI CMul fun i j => .int (i * j)) := fun T H t a b o v w Q L ha hb e k => by
  unfold fMulI at e
  split at e
  · split at e
    · rename_i q
      cases e
      simp only [Bool.or_eq_true, Bool.and_eq_true, decide_eq_true_eq] at q
      exact ⟨_, _, is_int ha, is_int hb, q, k _ T H Gr.refl L out_int⟩
    · cases e
  · cases e
theorem RepDs_rep {H : Hp} {ds : List D} {vs : List V} (r : RepDs K H ds vs) : ∀ n : Nat, RepDs K H (List.replicate n ds).flatten (List.replicate n vs).flatten
  | 0 => by simp [RepDs]
  | n + 1 => by
    rw [List.replicate_succ, List.replicate_succ, List.flatten_cons, List.flatten_cons]
    exact RepDs_app r (RepDs_rep r n)
theorem ok_rep : OpOk K fRep rRep := fun T H t a b o v w Q L ha hb e k => by
  have go : ∀ ds (j : Int), lstO a = some ds → b = .s (.int j) → (decide (-9223372036854775808 ≤ j) && decide (j < 9223372036854775808) && decide (ds.length * j.toNat ≤ 16777216)) = true → o = .l ((List.replicate j.toNat ds).flatten.map .s) → rRep v w H Q := fun ds j el eb q eo => by
    subst eb eo
    obtain ⟨l, vs, rfl, hl, r⟩ := is_lst ha el
    simp only [Bool.and_eq_true, decide_eq_true_eq] at q
    refine ⟨l, j, vs, rfl, is_int hb, hl, q.1.1, q.1.2, by rw [RepDs_len r, sizeLine_eq]; exact q.2, fun p hp => ?_⟩
    obtain ⟨g, l', z⟩ := out_lst (t := t) hp L (RepDs_rep r j.toNat)
    exact k _ _ _ g l' z
  unfold fRep at e
  split at e
  · split at e
    · rename_i ds q
      split at e
      · rename_i q2
        cases e
        exact go ds _ (by simpa only [lstO] using q) rfl q2 rfl
      · cases e
    · cases e
  · split at e
    · rename_i q2
      cases e
      exact go _ _ rfl rfl q2 rfl
    · cases e
  · cases e
theorem cmpI {g : O → O → Option Bool} {p : Int → Int → Bool} (hg : ∀ a b k, g a b = some k → ∃ i j, a = .s (.int i) ∧ b = .s (.int j) ∧ k = p i j) : OpOk K (bB g) (rI0 fun i j => .bl (p i j)) := fun T H t a b o v w Q L ha hb e k => by
  unfold bB at e
  split at e
  · rename_i q
    cases e
    obtain ⟨i, j, rfl, rfl, rfl⟩ := hg _ _ _ q
    exact ⟨i, j, is_int ha, is_int hb, k _ T H Gr.refl L out_bl⟩
  · cases e
theorem ok_lt : OpOk K (bB gLt) (rI0 fun i j => .bl (decide (i < j))) := cmpI fun a b k e => by unfold gLt at e; split at e <;> cases e; exact ⟨_, _, rfl, rfl, rfl⟩
theorem ok_le : OpOk K (bB gLe) (rI0 fun i j => .bl (decide (i ≤ j))) := cmpI fun a b k e => by unfold gLe at e; split at e <;> cases e; exact ⟨_, _, rfl, rfl, rfl⟩
theorem ok_gt : OpOk K (bB gGt) (rI0 fun i j => .bl (decide (j < i))) := cmpI fun a b k e => by unfold gGt at e; split at e <;> cases e; exact ⟨_, _, rfl, rfl, rfl⟩
theorem ok_ge : OpOk K (bB gGe) (rI0 fun i j => .bl (decide (j ≤ i))) := cmpI fun a b k e => by unfold gGe at e; split at e <;> cases e; exact ⟨_, _, rfl, rfl, rfl⟩

/-! ### + -/
def fAddI : O → O → Option O
  | .s (.int i), .s (.int j) => some (.s (.int (i + j)))
  | _, _ => none
def fAddS : O → O → Option O
  | .s (.str x), .s (.str y) => if x.length + y.length ≤ 16777216 then some (.s (.str (x ++ y))) else none
  | _, _ => none
def fCat : O → O → Option O := fun a b => match lstO a, lstO b with
  | some xs, some ys => if xs.length + ys.length ≤ 16777216 then some (.l ((xs ++ ys).map .s)) else none
  | _, _ => none
def fCatT : O → O → Option O
  | .s (.tup xs), .s (.tup ys) => if xs.length + ys.length ≤ 16777216 then some (.s (.tup (xs ++ ys))) else none
  | _, _ => none
theorem ok_addI : OpOk K fAddI (rI0 fun i j => .int (i + j)) := fun T H t a b o v w Q L ha hb e k => by
  unfold fAddI at e
  split at e
  · cases e
    exact ⟨_, _, is_int ha, is_int hb, k _ T H Gr.refl L out_int⟩
  · cases e
theorem strV_app {x y : List Nat} : (⟨x.toArray⟩ : Str) ++ ⟨y.toArray⟩ = ⟨(x ++ y).toArray⟩ := by
  show (⟨x.toArray ++ y.toArray⟩ : Str) = _
  simp
theorem ok_addS : OpOk K fAddS (fun x y H Q => ∃ i j, x = .str i ∧ y = .str j ∧ i.length + j.length ≤ sizeLine ∧ Q (.str (i ++ j)) H) := fun T H t a b o v w Q L ha hb e k => by
  unfold fAddS at e
  split at e
  · split at e
    · rename_i x y q
      cases e
      obtain ⟨rfl, s1⟩ := is_str ha
      obtain ⟨rfl, s2⟩ := is_str hb
      refine ⟨_, _, rfl, rfl, by rw [strV_len, strV_len, sizeLine_eq]; exact q, ?_⟩
      rw [strV_app]
      refine k _ T H Gr.refl L (out_str ⟨by rw [List.length_append]; exact q, fun c hc => ?_⟩)
      rcases List.mem_append.mp hc with z | z
      · exact s1.2 c z
      · exact s2.2 c z
    · cases e
  · cases e
theorem ok_cat : OpOk K fCat rCat := fun T H t a b o v w Q L ha hb e k => by
  unfold fCat at e
  split at e
  · rename_i xs ys q1 q2
    split at e
    · rename_i q
      cases e
      obtain ⟨l, vs, rfl, hl, r⟩ := is_lst ha q1
      obtain ⟨l2, vs2, rfl, hl2, r2⟩ := is_lst hb q2
      refine ⟨l, l2, vs, vs2, rfl, rfl, hl, hl2, by rw [RepDs_len r, RepDs_len r2, sizeLine_eq]; exact q, fun p hp => ?_⟩
      obtain ⟨g, l', z⟩ := out_lst (t := t) hp L (RepDs_app r r2)
      exact k _ _ _ g l' z
    · cases e
  · cases e
theorem ok_catT : OpOk K fCatT (rCatA K) := fun T H t a b o v w Q L ha hb e k => by
  unfold fCatT at e
  split at e
  · split at e
    · rename_i xs ys q
      cases e
      have h1 := is_d ha
      have h2 := is_d hb
      simp only [RepD] at h1 h2
      obtain ⟨l, vs, rfl, hl, r⟩ := h1
      obtain ⟨l2, vs2, rfl, hl2, r2⟩ := h2
      have nil : ∀ {ds : List D}, RepDs K (S T H) ds [] → ds = [] := fun {ds} r => List.eq_nil_of_length_eq_zero (RepDs_len r).symm
      refine ⟨l, l2, vs, vs2, rfl, rfl, SqT_mono (fun _ _ e => (S_some.mp e).2) hl, SqT_mono (fun _ _ e => (S_some.mp e).2) hl2, by rw [RepDs_len r, RepDs_len r2, sizeLine_eq]; exact q, fun z => ?_, fun _ z => ?_, fun _ _ p hp => ?_⟩
      · subst z
        refine k _ T H Gr.refl L (out_d ?_)
        rw [nil r, List.nil_append]; simp only [RepD]; exact ⟨l2, vs2, rfl, hl2, r2⟩
      · subst z
        refine k _ T H Gr.refl L (out_d ?_)
        rw [nil r2, List.append_nil]; simp only [RepD]; exact ⟨l, vs, rfl, hl, r⟩
      · obtain ⟨g, l', z⟩ := out_tup (t := t) hp L (RepDs_app r r2)
        exact k _ _ _ g l' z
    · cases e
  · cases e
def orF (f g : O → O → Option O) : O → O → Option O := fun a b => match f a b with
  | some o => some o
  | none => g a b
theorem ok_orF {f g : O → O → Option O} {r r' : R2} (h : OpOk K f r) (h' : OpOk K g r') : OpOk K (orF f g) (fun x y H Q => r x y H Q ∨ r' x y H Q) := ok_or h h'
def fAdd : O → O → Option O := orF fAddI (orF fAddS (orF fCat fCatT))
def fMulA : O → O → Option O := orF fMulI fRep
end
section
variable {X : Cx} {cx : Nat → Addr} {W : WX} {a b : Expr} {ma mb : EM Rs} {pos : Pos}
theorem m_add (ha : PE X a (tE X.K cx W ma)) (hb : PE X b (tE X.K cx W mb)) : PE X (.BinOp a .Add b pos) (tE X.K cx W (op2 fAdd ma mb)) := m_bin (ok_orF ok_addI (ok_orF ok_addS (ok_orF ok_cat ok_catT))) (op_add.or (op_add_str.or (op_cat.or op_catA))) ha hb
theorem m_mul (ha : PE X a (tE X.K cx W ma)) (hb : PE X b (tE X.K cx W mb)) : PE X (.BinOp a .Mult b pos) (tE X.K cx W (op2 fMulA ma mb)) := m_bin (ok_orF ok_mulI ok_rep) (op_mul.or op_rep) ha hb
theorem m_sub (ha : PE X a (tE X.K cx W ma)) (hb : PE X b (tE X.K cx W mb)) : PE X (.BinOp a .Sub b pos) (tE X.K cx W (op2 fSub ma mb)) := m_bin ok_sub op_sub ha hb
theorem m_div (ha : PE X a (tE X.K cx W ma)) (hb : PE X b (tE X.K cx W mb)) : PE X (.BinOp a .FloorDiv b pos) (tE X.K cx W (op2 fDiv ma mb)) := m_bin ok_div op_fdivN ha hb
theorem m_mod (ha : PE X a (tE X.K cx W ma)) (hb : PE X b (tE X.K cx W mb)) : PE X (.BinOp a .Mod b pos) (tE X.K cx W (op2 fMod ma mb)) := m_bin ok_mod op_modN ha hb
theorem m_pow (ha : PE X a (tE X.K cx W ma)) (hb : PE X b (tE X.K cx W mb)) : PE X (.BinOp a .Pow b pos) (tE X.K cx W (op2 fPow ma mb)) := m_bin ok_pow op_pow ha hb
theorem m_neg (ha : PE X a (tE X.K cx W ma)) : PE X (.UnaryOp .USub a pos) (tE X.K cx W (op1 fNeg ma)) := m_un ok_neg un_neg ha
end
end MI
/-! MiOps2: ==, <, in, is None, places, parts, len, isinstance and the like upon values. -/
namespace MI
open PySem L2

/-! ### == -/
mutual
def toP : D → Option PyData
  | .non => some .none
  | .bl b => some (.bool b)
  | .int i => some (.int i)
  | .str x => some (.str ⟨x.toArray⟩)
  | .tup ds => match toPs ds with
    | some ps => some (.tuple ps)
    | none => none
  | .lst ds => match toPs ds with
    | some ps => some (.list ps)
    | none => none
  | .scr ds => match toPs ds with
    | some ps => some (.list ps)
    | none => none
  | .ty _ => none
  | .opq _ => none
def toPs : List D → Option (List PyData)
  | [] => some []
  | d :: ds => match toP d, toPs ds with
    | some p, some ps => some (p :: ps)
    | _, _ => none
end
section
variable {K : PySem.W.Frag} {H : Hp}
mutual
theorem toP_dp : ∀ (d : D) (v : V) (p : PyData), RepD K H d v → toP d = some p → Dp K H v p
  | .non, _, _, h, e => by simp only [RepD] at h; simp only [toP, Option.some.injEq] at e; subst h e; exact .non
  | .bl b, _, _, h, e => by simp only [RepD] at h; simp only [toP, Option.some.injEq] at e; subst h e; exact .bl b
  | .int i, _, _, h, e => by simp only [RepD] at h; simp only [toP, Option.some.injEq] at e; subst h e; exact .int i
  | .str x, _, _, h, e => by simp only [RepD] at h; simp only [toP, Option.some.injEq] at e; obtain ⟨rfl, _⟩ := h; subst e; exact .str _
  | .tup ds, _, _, h, e => by
    simp only [RepD] at h
    simp only [toP] at e
    split at e
    · rename_i ps q
      simp only [Option.some.injEq] at e
      subst e
      obtain ⟨a, vs, rfl, hs, r⟩ := h
      exact .tup hs (toPs_dp ds vs ps r q)
    · cases e
  | .lst ds, _, _, h, e => by
    simp only [RepD] at h
    simp only [toP] at e
    split at e
    · rename_i ps q
      simp only [Option.some.injEq] at e
      subst e
      obtain ⟨a, vs, rfl, hs, r⟩ := h
      exact .lst (.inl (.inl hs)) (toPs_dp ds vs ps r q)
    · cases e
  | .scr ds, _, _, h, e => by
    simp only [RepD] at h
    simp only [toP] at e
    split at e
    · rename_i ps q
      simp only [Option.some.injEq] at e
      subst e
      obtain ⟨a, vs, rfl, hs, r⟩ := h
      exact .lst hs (toPs_dp ds vs ps r q)
    · cases e
  | .ty _, _, _, _, e => by simp [toP] at e
  | .opq _, _, _, _, e => by simp [toP] at e
theorem toPs_dp : ∀ (ds : List D) (vs : List V) (ps : List PyData), RepDs K H ds vs → toPs ds = some ps → DpAll K H vs ps
  | [], _, _, h, e => by simp only [RepDs] at h; simp only [toPs, Option.some.injEq] at e; subst h e; exact .nil
  | d :: ds, _, _, h, e => by
    simp only [RepDs] at h
    simp only [toPs] at e
    split at e
    · rename_i p ps q1 q2
      simp only [Option.some.injEq] at e
      subst e
      obtain ⟨v, ws, rfl, r1, r2⟩ := h
      exact .cons (toP_dp d v p r1 q1) (toPs_dp ds ws ps r2 q2)
    · cases e
end
end
def gEq (a b : O) : Option Bool := match toP (frz a), toP (frz b) with
  | some d, some e => if SeqAt.shaped d && SeqAt.shaped e then some (PyData.eqv d e) else none
  | _, _ => none
def gNe (a b : O) : Option Bool := match gEq a b with
  | some k => some (!k)
  | none => none
section
variable {K : PySem.W.Frag} {T : TM} {H : Hp} {o : O} {v : V}
theorem is_dp {p : PyData} (h : Is K T H o v) (e : toP (frz o) = some p) : Dp K H v p := by
  obtain ⟨r, q, h⟩ := h
  exact toP_dp _ _ _ (RepO_view o q v h) e
theorem ok_eq : OpOk K (bB gEq) (rEqD K) := fun T H t a b o v w Q L ha hb e k => by
  unfold bB at e
  split at e
  · rename_i z q
    cases e
    unfold gEq at q
    split at q
    · rename_i d e q1 q2
      split at q
      · rename_i q3
        cases q
        simp only [Bool.and_eq_true] at q3
        exact ⟨d, e, is_dp ha q1, is_dp hb q2, q3.1, q3.2, k _ T H Gr.refl L out_bl⟩
      · cases q
    · cases q
  · cases e
theorem ok_ne : OpOk K (bB gNe) (rNeD K) := fun T H t a b o v w Q L ha hb e k => by
  unfold bB at e
  split at e
  · rename_i z q
    cases e
    unfold gNe at q
    split at q
    · rename_i z q
      cases ‹some _ = some _›
      unfold gEq at q
      split at q
      · rename_i d e q1 q2
        split at q
        · rename_i q3
          cases q
          simp only [Bool.and_eq_true] at q3
          exact ⟨d, e, is_dp ha q1, is_dp hb q2, q3.1, q3.2, k _ T H Gr.refl L out_bl⟩
        · cases q
      · cases q
    · cases q
  · cases e
end
theorem huR {k n : Nat} {A : Around} (h : Room k A) (hk : n ≤ 200) : A.units + n < cLine := by
  have := h.un
  omega

/-! ### < of ints, texts left out, tuples, lists -/
mutual
def ltP : PyData → PyData → Option Bool
  | .int i, .int j => some (decide (i < j))
  | .tuple xs, .tuple ys => ltPs xs ys
  | .list xs, .list ys => ltPs xs ys
  | _, _ => none
def ltPs : List PyData → List PyData → Option Bool
  | [], ys => some (!ys.isEmpty)
  | _ :: _, [] => some false
  | x :: xs, y :: ys => match ltPs xs ys with
    | some k => if PyData.eqv x y then some k else ltP x y
    | none => none
end
def rAt (xs ys : List PyData) (j : Nat) : Bool := match xs[j]?, ys[j]? with
  | some x, some y => (ltP x y).getD false
  | _, _ => false
def eAt (xs ys : List PyData) (j : Nat) : Bool := match xs[j]?, ys[j]? with
  | some x, some y => PyData.eqv x y
  | _, _ => false
theorem firstLt_map (e r : Nat → Bool) (fin : Bool) : ∀ l : List Nat, SeqAt.firstLt e r fin (l.map (· + 1)) = SeqAt.firstLt (fun j => e (j + 1)) (fun j => r (j + 1)) fin l
  | [] => rfl
  | j :: t => by
    rw [List.map_cons]
    unfold SeqAt.firstLt
    rw [firstLt_map e r fin t]
theorem ltPs_first : ∀ {xs ys : List PyData} {k : Bool}, ltPs xs ys = some k → k = SeqAt.firstLt (eAt xs ys) (rAt xs ys) (decide (xs.length < ys.length)) (List.range (min xs.length ys.length)) ∧
    ∀ j x y, xs[j]? = some x → ys[j]? = some y → PyData.eqv x y = false → ∃ b, ltP x y = some b ∧ rAt xs ys j = b
  | [], ys, k, h => by
    simp only [ltPs, Option.some.injEq] at h
    subst h
    refine ⟨?_, fun j x y e => by simp at e⟩
    cases ys <;> simp [SeqAt.firstLt]
  | x :: xs, [], k, h => by
    simp only [ltPs, Option.some.injEq] at h
    subst h
    refine ⟨?_, fun j a y e e2 => by simp at e2⟩
    simp [SeqAt.firstLt]
  | x :: xs, y :: ys, k, h => by
    simp only [ltPs] at h
    split at h
    · rename_i k2 q
      obtain ⟨h1, h2⟩ := ltPs_first q
      have hr : List.range (min (x :: xs).length (y :: ys).length) = 0 :: (List.range (min xs.length ys.length)).map (· + 1) := by
        rw [List.length_cons, List.length_cons, show min (xs.length + 1) (ys.length + 1) = min xs.length ys.length + 1 by omega, List.range_succ_eq_map]
      have hl : decide ((x :: xs).length < (y :: ys).length) = decide (xs.length < ys.length) := by simp
      rw [hr, hl]
      unfold SeqAt.firstLt
      rw [firstLt_map]
      have e0 : eAt (x :: xs) (y :: ys) 0 = PyData.eqv x y := by simp [eAt]
      have es : (fun j => eAt (x :: xs) (y :: ys) (j + 1)) = eAt xs ys := by funext j; simp [eAt]
      have rs : (fun j => rAt (x :: xs) (y :: ys) (j + 1)) = rAt xs ys := by funext j; simp [rAt]
      rw [e0, es, rs, ← h1]
      refine ⟨?_, fun j a b ea eb en => ?_⟩
      · split at h
        · rename_i z
          rw [if_pos z]
          exact (Option.some.inj h).symm
        · rename_i z
          rw [if_neg z]
          simp [rAt, h]
      · cases j with
        | zero =>
          simp only [List.getElem?_cons_zero, Option.some.injEq] at ea eb
          subst ea eb
          rw [if_neg (by rw [en]; exact Bool.false_ne_true)] at h
          exact ⟨k, h, by simp [rAt, h]⟩
        | succ j =>
          simp only [List.getElem?_cons_succ] at ea eb
          obtain ⟨b', hb, hr'⟩ := h2 j a b ea eb en
          exact ⟨b', hb, by rw [← hr']; simp [rAt]⟩
    · cases h
theorem readsAll_at {h : Heap} : ∀ {vs : List Value} {ds : List PyData} {as : List Addr}, ReadsAll h vs ds as → vs.length = ds.length ∧ ∀ j (hj : j < vs.length), ∃ d a, ds[j]? = some d ∧ Reads h vs[j] d a
  | [], _, _, r => by cases r; exact ⟨rfl, fun j hj => absurd hj (Nat.not_lt_zero _)⟩
  | v :: vs, _, _, r => by
    cases r with
    | cons r1 r2 =>
      obtain ⟨l, q⟩ := readsAll_at r2
      refine ⟨by simp [l], fun j hj => ?_⟩
      cases j with
      | zero => exact ⟨_, _, rfl, r1⟩
      | succ j => exact q j (by simpa using hj)
theorem depth_at : ∀ {ds : List PyData} {j : Nat} {d : PyData}, ds[j]? = some d → d.depth ≤ PyData.depthAll ds
  | [], _, _, h => by simp at h
  | x :: xs, 0, d, h => by
    simp only [List.getElem?_cons_zero, Option.some.injEq] at h
    subst h
    simp only [PyData.depthAll]
    omega
  | x :: xs, j + 1, d, h => by
    have := depth_at (ds := xs) (j := j) (by simpa using h)
    simp only [PyData.depthAll]
    omega
theorem canLay_at : ∀ {ds : List PyData} {j : Nat} {d : PyData}, PyData.canLayAll0 ds = true → ds[j]? = some d → d.canLay0 = true
  | [], _, _, _, h => by simp at h
  | x :: xs, 0, d, c, h => by
    simp only [List.getElem?_cons_zero, Option.some.injEq] at h
    subst h
    simp only [PyData.canLayAll0, Bool.and_eq_true] at c
    exact c.1
  | x :: xs, j + 1, d, c, h => by
    simp only [PyData.canLayAll0, Bool.and_eq_true] at c
    exact canLay_at (ds := xs) (j := j) c.2 (by simpa using h)
theorem lt_items {A : Around} {s : Shared} {vs us : Array Value} {xs ys : List PyData} {as bs : List Addr} {n : Nat} {k : Bool} (ra : ReadsAll s.heap vs.toList xs as) (rb : ReadsAll s.heap us.toList ys bs) (ca : PyData.canLayAll0 xs = true) (cb : PyData.canLayAll0 ys = true)
    (hn : PyData.depthAll xs ≤ n) (hu : A.units + n + 1 < cLine) (h : ltPs xs ys = some k)
    (ih : ∀ (p q : PyData) (k : Bool) (v u : Value) (as bs : List Addr), p ∈ xs → ltP p q = some k → Reads s.heap v p as → Reads s.heap u q bs → p.canLay0 = true → q.canLay0 = true → SeqAt.RcLt A.in1 s v u k) :
    (∀ j (h1 : j < vs.size) (h2 : j < us.size), SeqAt.EqAt A.in1 s vs[j] us[j] (eAt xs ys j)) ∧ (∀ j (h1 : j < vs.size) (h2 : j < us.size), eAt xs ys j = false → SeqAt.RcLt A.in1 s vs[j] us[j] (rAt xs ys j)) ∧
      k = SeqAt.firstLt (eAt xs ys) (rAt xs ys) (decide (vs.size < us.size)) (List.range (min vs.size us.size)) := by
  obtain ⟨l1, q1⟩ := readsAll_at ra
  obtain ⟨l2, q2⟩ := readsAll_at rb
  obtain ⟨f, g⟩ := ltPs_first h
  have s1 : vs.size = xs.length := by rw [← l1]; simp
  have s2 : us.size = ys.length := by rw [← l2]; simp
  refine ⟨fun j h1 h2 => ?_, fun j h1 h2 e => ?_, by rw [s1, s2]; exact f⟩
  · obtain ⟨d, a, e1, r1⟩ := q1 j (by simpa using h1)
    obtain ⟨d2, a2, e2, r2⟩ := q2 j (by simpa using h2)
    have ee : eAt xs ys j = PyData.eqv d d2 := by simp [eAt, e1, e2]
    rw [ee]
    have := depth_at e1
    exact SeqAt.eqAt_reads d d2 A.in1 s vs[j] us[j] a a2 (by simpa using r1) (by simpa using r2) (canLay_at ca e1) (canLay_at cb e2) (by show A.units + 1 + _ < _; omega)
  · obtain ⟨d, a, e1, r1⟩ := q1 j (by simpa using h1)
    obtain ⟨d2, a2, e2, r2⟩ := q2 j (by simpa using h2)
    have ee : eAt xs ys j = PyData.eqv d d2 := by simp [eAt, e1, e2]
    rw [ee] at e
    obtain ⟨b, hb, hr⟩ := g j d d2 e1 e2 e
    rw [hr]
    exact ih d d2 b _ _ a a2 (List.mem_of_getElem? e1) hb (by simpa using r1) (by simpa using r2) (canLay_at ca e1) (canLay_at cb e2)
theorem depth_mem {p : PyData} {xs : List PyData} (h : p ∈ xs) : p.depth ≤ PyData.depthAll xs := by
  obtain ⟨j, hj⟩ := List.mem_iff_getElem?.mp h
  exact depth_at hj
theorem lt_rc : ∀ (n : Nat) (p q : PyData) (k : Bool) (A : Around) (s : Shared) (v u : Value) (as bs : List Addr), p.depth ≤ n → ltP p q = some k → Reads s.heap v p as → Reads s.heap u q bs → p.canLay0 = true → q.canLay0 = true → A.units + n + 1 < cLine → SeqAt.RcLt A s v u k
  | n, p, q, k, A, s, v, u, as, bs, hn, h, ra, rb, ca, cb, hu => by
    unfold ltP at h
    split at h
    · rename_i i j
      cases h
      cases ra
      cases rb
      exact fun prog w E Q hq => HT.rcLt_int _ _ _ _ _ _ _ _ _ _ hq
    · rename_i xs ys
      cases ra with
      | tuple h1 h2 h3 h4 =>
        cases rb with
        | tuple k1 k2 k3 k4 =>
          have dd : PyData.depthAll xs + 1 ≤ n := hn
          cases n with
          | zero => omega
          | succ n =>
            obtain ⟨x1, x2, x3⟩ := lt_items h4 k4 ca cb (n := n) (by omega) (by omega) h fun p q k v u as bs hp e r1 r2 c1 c2 => lt_rc n p q k A.in1 s v u as bs (by have := depth_mem hp; omega) e r1 r2 c1 c2 (by show A.units + 1 + n + 1 < _; omega)
            rw [x3]
            exact SeqAt.RcLt.tuples ⟨_, h1, h2, _, h3⟩ ⟨_, k1, k2, _, k3⟩ (by omega) x1 x2
    · rename_i xs ys
      cases ra with
      | list h1 h2 h3 h4 =>
        cases rb with
        | list k1 k2 k3 k4 =>
          have dd : PyData.depthAll xs + 1 ≤ n := hn
          cases n with
          | zero => omega
          | succ n =>
            obtain ⟨x1, x2, x3⟩ := lt_items h4 k4 ca cb (n := n) (by omega) (by omega) h fun p q k v u as bs hp e r1 r2 c1 c2 => lt_rc n p q k A.in1 s v u as bs (by have := depth_mem hp; omega) e r1 r2 c1 c2 (by show A.units + 1 + n + 1 < _; omega)
            rw [x3]
            exact SeqAt.RcLt.lists ⟨_, h1, h2, _, h3⟩ ⟨_, k1, k2, _, k3⟩ (by omega) x1 x2
    · cases h
termination_by n => n
def gLtD (a b : O) : Option Bool := match toP (frz a), toP (frz b) with
  | some d, some e => if SeqAt.shaped d && SeqAt.shaped e then ltP d e else none
  | _, _ => none
def rLtP (K : PySem.W.Frag) : R2 := fun x y H Q => ∃ d e k, Dp K H x d ∧ Dp K H y e ∧ SeqAt.shaped d = true ∧ SeqAt.shaped e = true ∧ ltP d e = some k ∧ Q (.bl k) H
theorem op_ltP {X : Cx} (hu : X.A.units + 66 < cLine) : OpR X (compareOp .Lt) (rLtP X.K) := by
  intro pins s σ H x y v u Q I rx ry h
  obtain ⟨d, e, k, hd, he, sd, se, hk, q⟩ := h
  obtain ⟨as, r1⟩ := Dp.reads I d x v hd rx
  obtain ⟨bs, r2⟩ := Dp.reads I e y u he ry
  exact lt_rc 64 d e k _ s v u as bs (SeqAt.depth_of_shaped sd) hk r1 r2 (SeqAt.canLay_of_shaped sd) (SeqAt.canLay_of_shaped se) (by omega) _ _ _ _ ⟨.bl _, H, I, rfl, q⟩
theorem ok_ltD {K : PySem.W.Frag} : OpOk K (bB gLtD) (rLtP K) := fun T H t a b o v w Q L ha hb e k => by
  unfold bB at e
  split at e
  · rename_i z q
    cases e
    unfold gLtD at q
    split at q
    · rename_i d e q1 q2
      split at q
      · rename_i q3
        simp only [Bool.and_eq_true] at q3
        exact ⟨d, e, z, is_dp ha q1, is_dp hb q2, q3.1, q3.2, q, k _ T H Gr.refl L out_bl⟩
      · cases q
    · cases q
  · cases e
end MI
/-! MiOps3: in, is None, places, parts of texts and lists, text methods, len, isinstance, lists' own methods. -/
namespace MI
open PySem L2 PySem.StrLaws

/-! ### in -/
/-- is y somewhere in a text -/
def subIn (y : List Nat) : List Nat → Bool
  | [] => y.isEmpty
  | c :: x => y.isPrefixOf (c :: x) || subIn y x
theorem pre_at {x y : List Nat} {i : Nat} : (i + y.length ≤ x.length ∧ Builtin.Str.subAt ⟨x.toArray⟩ ⟨y.toArray⟩ i = true) ↔ y <+: x.drop i ∧ i ≤ x.length := by
  rw [subAt_eq]
  simp only [Str.length, List.size_toArray, beq_iff_eq]
  constructor
  · rintro ⟨h1, h2⟩
    exact ⟨by rw [← h2]; exact List.take_prefix _ _, by omega⟩
  · rintro ⟨⟨t, e⟩, hi⟩
    have hl := congrArg List.length e
    simp only [List.length_append, List.length_drop] at hl
    exact ⟨by omega, by rw [← e]; simp⟩
theorem subIn_iff {y : List Nat} : ∀ {x : List Nat}, subIn y x = true ↔ ∃ i, y <+: x.drop i ∧ i ≤ x.length
  | [] => by
    simp only [subIn, List.isEmpty_iff]
    constructor
    · rintro rfl
      exact ⟨0, by simp⟩
    · rintro ⟨i, h, _⟩
      simpa using h
  | c :: x => by
    simp only [subIn, Bool.or_eq_true, List.isPrefixOf_iff_prefix]
    rw [subIn_iff (x := x)]
    constructor
    · rintro (h | ⟨i, h, hi⟩)
      · exact ⟨0, h, Nat.zero_le _⟩
      · exact ⟨i + 1, h, by simpa using hi⟩
    · rintro ⟨i, h, hi⟩
      cases i with
      | zero => exact .inl h
      | succ i => exact .inr ⟨i, h, by simpa using hi⟩
theorem occ_in {x y : List Nat} : (!(Builtin.Str.occurrences ⟨x.toArray⟩ ⟨y.toArray⟩ 0 (⟨x.toArray⟩ : Str).length 1).isEmpty) = subIn y x := by
  rw [Bool.eq_iff_iff, found_iff, subIn_iff]
  constructor
  · rintro ⟨i, h⟩
    exact ⟨i, pre_at.mp h⟩
  · rintro ⟨i, h⟩
    exact ⟨i, pre_at.mpr h⟩
/-- in a text; in a list of data -/
def gInS (a b : O) : Option Bool := match a, b with
  | .s (.str x), .s (.str y) => some (subIn x y)
  | _, _ => none
def gInL (a b : O) : Option Bool := match toP (frz a), toP (frz b) with
  | some d, some (.list ds) => if SeqAt.shaped d && SeqAt.shaped (.list ds) then some (ds.any fun z => PyData.eqv z d) else none
  | _, _ => none
def gIn (a b : O) : Option Bool := match gInS a b with
  | some k => some k
  | none => gInL a b
def gNi (a b : O) : Option Bool := match gIn a b with
  | some k => some (!k)
  | none => none
section
variable {K : PySem.W.Frag}
def rInS : R2 := fun x y H Q => ∃ i j, x = .str i ∧ y = .str j ∧ Q (.bl (!(Builtin.Str.occurrences j i 0 j.length 1).isEmpty)) H
def rNiS : R2 := fun x y H Q => ∃ i j, x = .str i ∧ y = .str j ∧ Q (.bl (!(!(Builtin.Str.occurrences j i 0 j.length 1).isEmpty))) H
theorem gInS_ok {T : TM} {H : Hp} {a b : O} {v w : V} {z : Bool} (ha : Is K T H a v) (hb : Is K T H b w) (q : gInS a b = some z) : ∃ i j, v = .str i ∧ w = .str j ∧ (!(Builtin.Str.occurrences j i 0 j.length 1).isEmpty) = z := by
  unfold gInS at q
  split at q
  · cases q
    obtain ⟨rfl, _⟩ := is_str ha
    obtain ⟨rfl, _⟩ := is_str hb
    exact ⟨_, _, rfl, rfl, occ_in⟩
  · cases q
theorem gInL_ok {T : TM} {H : Hp} {a b : O} {v w : V} {z : Bool} (ha : Is K T H a v) (hb : Is K T H b w) (q : gInL a b = some z) : ∃ d ds, Dp K H v d ∧ Dp K H w (.list ds) ∧ SeqAt.shaped d = true ∧ SeqAt.shaped (.list ds) = true ∧ (ds.any fun z => PyData.eqv z d) = z := by
  unfold gInL at q
  split at q
  · rename_i d ds q1 q2
    split at q
    · rename_i q3
      cases q
      simp only [Bool.and_eq_true] at q3
      exact ⟨d, ds, is_dp ha q1, is_dp hb q2, q3.1, q3.2, rfl⟩
    · cases q
  · cases q
theorem ok_in : OpOk K (bB gIn) (fun x y H Q => rInS x y H Q ∨ rInD K x y H Q) := fun T H t a b o v w Q L ha hb e k => by
  unfold bB at e
  split at e
  · rename_i z q
    cases e
    unfold gIn at q
    split at q
    · rename_i z q2
      cases ‹some _ = some _›
      obtain ⟨i, j, rfl, rfl, e⟩ := gInS_ok ha hb q2
      exact .inl ⟨i, j, rfl, rfl, by rw [e]; exact k _ T H Gr.refl L out_bl⟩
    · obtain ⟨d, ds, h1, h2, h3, h4, h5⟩ := gInL_ok ha hb q
      exact .inr ⟨d, ds, h1, h2, h3, h4, by rw [h5]; exact k _ T H Gr.refl L out_bl⟩
  · cases e
theorem ok_ni : OpOk K (bB gNi) (fun x y H Q => rNiS x y H Q ∨ rNotInD K x y H Q) := fun T H t a b o v w Q L ha hb e k => by
  unfold bB at e
  split at e
  · rename_i z0 q0
    cases e
    unfold gNi at q0
    split at q0
    · rename_i z q
      cases ‹some _ = some _›
      unfold gIn at q
      split at q
      · rename_i z q2
        cases ‹some _ = some _›
        obtain ⟨i, j, rfl, rfl, e⟩ := gInS_ok ha hb q2
        exact .inl ⟨i, j, rfl, rfl, by rw [e]; exact k _ T H Gr.refl L out_bl⟩
      · obtain ⟨d, ds, h1, h2, h3, h4, h5⟩ := gInL_ok ha hb q
        exact .inr ⟨d, ds, h1, h2, h3, h4, by rw [h5]; exact k _ T H Gr.refl L out_bl⟩
    · cases q0
  · cases e
end

/-! ### is None -/
def isNon : O → Bool
  | .s .non => true
  | _ => false
def gIsN (a b : O) : Option Bool := match a, b with
  | .s (.opq _), _ => none
  | a, .s .non => some (isNon a)
  | _, _ => none
section
variable {K : PySem.W.Frag}
theorem isNon_v {T : TM} {H : Hp} {a : O} {v : V} (h : Is K T H a v) (ho : ∀ x, a ≠ .s (.opq x)) : decide (v = .non) = isNon a := by
  obtain ⟨r, p, h⟩ := h
  cases a with
  | l os =>
    simp only [RepO] at h
    obtain ⟨a, vs, rfl, _⟩ := h
    simp [isNon]
  | s d =>
    simp only [RepO] at h
    cases d with
    | non => simp only [RepD] at h; subst h; rfl
    | bl b => simp only [RepD] at h; subst h; simp [isNon]
    | int b => simp only [RepD] at h; subst h; simp [isNon]
    | str b => simp only [RepD] at h; obtain ⟨rfl, _⟩ := h; simp [isNon, strV]
    | ty b => simp only [RepD] at h; subst h; simp [isNon]
    | opq b => exact absurd rfl (ho b)
    | tup ds => simp only [RepD] at h; obtain ⟨a, vs, rfl, _⟩ := h; simp [isNon]
    | lst ds => simp only [RepD] at h; obtain ⟨a, vs, rfl, _⟩ := h; simp [isNon]
    | scr ds => simp only [RepD] at h; obtain ⟨a, vs, rfl, _⟩ := h; simp [isNon]
theorem ok_isN : OpOk K (bB gIsN) (fun x y H Q => y = .non ∧ Q (.bl (decide (x = .non))) H) := fun T H t a b o v w Q L ha hb e k => by
  unfold bB at e
  split at e
  · rename_i z q
    cases e
    unfold gIsN at q
    split at q
    · cases q
    · rename_i ho
      cases q
      have hw : w = .non := by obtain ⟨r, p, h⟩ := hb; simpa only [RepO, RepD] using h
      refine ⟨hw, ?_⟩
      rw [isNon_v ha (fun x e => ho x e)]
      exact k _ T H Gr.refl L out_bl
    · cases q
  · cases e
end

/-! ### places -/
def fIx (a b : O) : Option O := match b with
  | .s (.int i) => match a with
    | .s (.str x) => match atI x i with
      | some c => some (.s (.str [c]))
      | none => none
    | .s (.tup ds) => match atI ds i with
      | some d => some (.s d)
      | none => none
    | .s (.scr ds) => match atI ds i with
      | some d => some (.s d)
      | none => none
    | a => match lstO a with
      | some ds => match atI ds i with
        | some d => some (.s d)
        | none => none
      | none => none
  | _ => none
section
variable {K : PySem.W.Frag} {T : TM} {H : Hp} {t : Nat}
theorem atI_rep {ds : List D} {vs : List V} {i : Int} {d : D} (r : RepDs K (S T H) ds vs) (e : atI ds i = some d) : ∃ v, atI vs i = some v ∧ RepD K (S T H) d v := by
  unfold atI at e ⊢
  rw [RepDs_len r]
  cases q : ixN ds.length i with
  | none => rw [q] at e; cases e
  | some j =>
    rw [q] at e
    simp only [Option.bind_some] at e ⊢
    exact RepDs_get r e
theorem atI_mem {α : Type} {xs : List α} {i : Int} {x : α} (e : atI xs i = some x) : x ∈ xs := by
  unfold atI at e
  cases q : ixN xs.length i with
  | none => rw [q] at e; cases e
  | some j =>
    rw [q] at e
    exact List.mem_of_getElem? e
theorem ok_ix : OpOk K fIx (rIx K) := fun T H t a b o v w Q L ha hb e k => by
  unfold fIx at e
  split at e
  · rename_i i
    have hw := is_int hb
    subst hw
    split at e
    · split at e
      · rename_i x c q
        cases e
        obtain ⟨rfl, s1⟩ := is_str ha
        refine .inr (.inr ⟨_, i, c, rfl, rfl, by rw [strV_len, sizeLine_eq]; exact s1.1, by simpa using q, ?_⟩)
        exact k _ T H Gr.refl L (out_str ⟨by simp, fun d hd => by simp only [List.mem_singleton] at hd; subst hd; exact s1.2 _ (atI_mem q)⟩)
      · cases e
    · split at e
      · rename_i ds d q
        cases e
        have h1 := is_d ha
        simp only [RepD] at h1
        obtain ⟨l, vs, rfl, hl, r⟩ := h1
        obtain ⟨u, hu, ru⟩ := atI_rep r q
        exact .inr (.inl ⟨l, vs, i, u, rfl, rfl, SqT_mono (fun _ _ e => (S_some.mp e).2) hl, hu, k _ T H Gr.refl L (out_d ru)⟩)
      · cases e
    · split at e
      · rename_i ds d q
        cases e
        have h1 := is_d ha
        simp only [RepD] at h1
        obtain ⟨l, vs, rfl, hl, r⟩ := h1
        obtain ⟨u, hu, ru⟩ := atI_rep r q
        exact .inl ⟨l, vs, i, u, rfl, rfl, SqL_mono (fun _ _ e => (S_some.mp e).2) hl, hu, k _ T H Gr.refl L (out_d ru)⟩
      · cases e
    · split at e
      · rename_i ds q1
        split at e
        · rename_i d q
          cases e
          obtain ⟨l, vs, rfl, hl, r⟩ := is_lst ha q1
          obtain ⟨u, hu, ru⟩ := atI_rep r q
          exact .inl ⟨l, vs, i, u, rfl, rfl, .inl (.inl hl), hu, k _ T H Gr.refl L (out_d ru)⟩
        · cases e
      · cases e
  · cases e
end

/-! ### parts a[lo:hi] -/
def cutL {α : Type} (xs : List α) (lo hi : Option Int) : List α := (xs.drop (HT.sIx xs.length 0 lo)).take (HT.sIx xs.length xs.length hi - HT.sIx xs.length 0 lo)
theorem cutL_le {α : Type} (xs : List α) (lo hi : Option Int) : (cutL xs lo hi).length ≤ xs.length := by
  unfold cutL
  rw [List.length_take, List.length_drop]
  omega
theorem cutL_mem {α : Type} {xs : List α} {lo hi : Option Int} {x : α} (h : x ∈ cutL xs lo hi) : x ∈ xs := List.mem_of_mem_drop (List.mem_of_mem_take h)
def fSl (a : O) (lo hi : Option Int) : Option O := match a with
  | .s (.str x) => some (.s (.str (cutL x lo hi)))
  | .s (.tup ds) => if HT.sIx ds.length 0 lo = 0 ∧ HT.sIx ds.length ds.length hi = ds.length then some (.s (.tup ds)) else some (.s (.tup (cutL ds lo hi)))
  | .s (.scr ds) => some (.l ((cutL ds lo hi).map .s))
  | a => match lstO a with
    | some ds => some (.l ((cutL ds lo hi).map .s))
    | none => none
def SlOk (K : PySem.W.Frag) (f : O → Option Int → Option Int → Option O) (r : V → Option Int → Option Int → Hp → VK → Prop) : Prop := ∀ (T : TM) (H : Hp) (t : Nat) (a o : O) (lo hi : Option Int) (v : V) (Q : VK), Lt (t + 1) T → (∃ rt p, RepO K T H a rt p v) → f a lo hi = some o →
  (∀ u T' H', Gr T T' H H' → Lt (t + 1) T' → RepO K T' H' o (.tm t) [] u → Q u H') → r v lo hi H Q
section
variable {K : PySem.W.Frag}
def rSlX (K : PySem.W.Frag) : V → Option Int → Option Int → Hp → VK → Prop := fun x lo hi H Q => rSlS x lo hi H Q ∨ rSlA K x lo hi H Q ∨ rSlL K x lo hi H Q
theorem sl_all {X : Cx} : SlR X (rSlX X.K) := sl_str.or (sl_tupA.or sl_list)
theorem cut_rep {T : TM} {H : Hp} {ds : List D} {vs : List V} (r : RepDs K (S T H) ds vs) (lo hi : Option Int) : RepDs K (S T H) (cutL ds lo hi) (cutV vs lo hi) := by
  unfold cutL cutV
  rw [RepDs_len r]
  exact RepDs_take _ (RepDs_drop _ r)
theorem ok_sl : SlOk K fSl (rSlX K) := fun T H t a o lo hi v Q L ha e k => by
  unfold fSl at e
  split at e
  · rename_i x
    cases e
    obtain ⟨rfl, s1⟩ := is_str ha
    refine .inl ⟨_, rfl, by rw [strV_len, sizeLine_eq]; exact s1.1, ?_⟩
    have ec : cutS ⟨x.toArray⟩ lo hi = ⟨(cutL x lo hi).toArray⟩ := by unfold cutS cutL; rw [strV_len]
    rw [ec]
    exact k _ T H Gr.refl L (out_str ⟨Nat.le_trans (cutL_le x lo hi) s1.1, fun c hc => s1.2 c (cutL_mem hc)⟩)
  · rename_i ds
    have h1 := is_d ha
    simp only [RepD] at h1
    obtain ⟨l, vs, rfl, hl, r⟩ := h1
    have hn := RepDs_len r
    refine .inr (.inl ⟨l, vs, rfl, SqT_mono (fun _ _ e => (S_some.mp e).2) hl, fun z => ?_, fun z p hp => ?_⟩)
    · rw [hn] at z
      rw [if_pos z] at e
      cases e
      exact k _ T H Gr.refl L (out_d (by simp only [RepD]; exact ⟨l, vs, rfl, hl, r⟩))
    · rw [hn] at z
      rw [if_neg z] at e
      cases e
      obtain ⟨g, l', w⟩ := out_tup (t := t) hp L (cut_rep r lo hi)
      exact k _ _ _ g l' w
  · rename_i ds
    cases e
    have h1 := is_d ha
    simp only [RepD] at h1
    obtain ⟨l, vs, rfl, hl, r⟩ := h1
    refine .inr (.inr ⟨l, vs, rfl, SqL_mono (fun _ _ e => (S_some.mp e).2) hl, fun p hp => ?_⟩)
    obtain ⟨g, l', w⟩ := out_lst (t := t) hp L (cut_rep r lo hi)
    exact k _ _ _ g l' w
  · split at e
    · rename_i ds q1
      cases e
      obtain ⟨l, vs, rfl, hl, r⟩ := is_lst ha q1
      refine .inr (.inr ⟨l, vs, rfl, .inl (.inl hl), fun p hp => ?_⟩)
      obtain ⟨g, l', w⟩ := out_lst (t := t) hp L (cut_rep r lo hi)
      exact k _ _ _ g l' w
    · cases e
end
def tO (K : PySem.W.Frag) (cx : Nat → Addr) (W : WX) (m : EM (Option Int)) : TO := fun σ H Q => ∃ T env t, EI K T H env σ ∧ Lt t T ∧ Wk K cx W σ T H t (m env) (fun o _ _ H' => Q o H')
def pNo : EM (Option Int) := ret none
def pSo (m : EM Rs) : EM (Option Int) := bd m fun r => fun e => match look e r with
  | some (.s (.int i)) => .ok (some i) e
  | _ => .stuck
def eSl (f : O → Option Int → Option Int → Option O) (m : EM Rs) (ml mh : EM (Option Int)) : EM Rs := bd m fun r => bd ml fun lo => bd mh fun hi => fun e => match look e (opnd r) with
  | some o1 => match f o1 lo hi with
    | some o => .ok (.v o) e
    | none => .stuck
  | none => .stuck
section
variable {X : Cx} {cx : Nat → Addr} {W : WX} {e : Expr} {me : EM Rs} {ml mh : EM (Option Int)} {lo hi : Option Expr} {p2 pos : Pos}
theorem POimp {e : Option Expr} {t t' : TO} (h : PO X e t) (w : ∀ σ H Q, t' σ H Q → t σ H Q) : PO X e t' := ⟨fun pins s σ H Q I hw => h.run pins s σ H Q I (w σ H Q hw)⟩
theorem p_no : PO X none (tO X.K cx W pNo) := POimp po_none fun σ H Q h => by
  obtain ⟨T, env, t, I, L, h⟩ := h
  exact h.use Fr.refl I (L.mono (Nat.le_succ _))
theorem p_so (he : PE X e (tE X.K cx W me)) : PO X (some e) (tO X.K cx W (pSo me)) := POimp (po_some he) fun σ H Q h => by
  obtain ⟨T, env, t, I, L, h⟩ := h
  refine ⟨T, env, t, I, L, h.bd fun r1 e1 T1 H1 F1 I1 L1 h1 v hv => ?_⟩
  try dsimp only at h1
  split at h1
  · rename_i i q
    exact ⟨i, is_int (look_rep I1 hv q), h1.use F1 I1 L1⟩
  · exact h1.elim
theorem m_sl {f : O → Option Int → Option Int → Option O} {r : V → Option Int → Option Int → Hp → VK → Prop} (hf : SlOk X.K f r) (hr : SlR X r) (he : PE X e (tE X.K cx W me)) (hl : PO X lo (tO X.K cx W ml)) (hh : PO X hi (tO X.K cx W mh)) :
    PE X (.Subscript e (.Slice lo hi none p2) pos) (tE X.K cx W (eSl f me ml mh)) := PEimp (pe_slice hr he hl hh) fun σ H Q h => by
  obtain ⟨T, env, t, I, L, h⟩ := h
  refine ⟨T, env, t, I, L, h.bd fun r1 e1 T1 H1 F1 I1 L1 h1 v hv => ?_⟩
  obtain ⟨F1', I1', L1', hv'⟩ := settle L F1 I1 L1 hv
  refine ⟨_, e1, t, I1', L1', (h1.step F1').bd fun lo e2 T2 H2 F2 I2 L2 h2 => ?_⟩
  obtain ⟨F2', I2', L2'⟩ := clean L1' F2 I2 L2
  have hv2 := held (t' := t) hv' F2'
  refine ⟨_, e2, t, I2', L2', (h2.step F2').bd fun hi e3 T3 H3 F3 I3 L3 h3 => ?_⟩
  have hv3 := held (t' := t) hv2 F3
  try dsimp only at h3
  split at h3
  · rename_i o1 q1
    split at h3
    · rename_i o q3
      refine hf T3 H3 t o1 o lo hi v Q L3 (look_rep I3 hv3 q1) q3 fun u T' H' G L' ho => ?_
      exact h3 T' H' (F3.trans G.fr) (G.ei I3) L' u ho
    · exact h3.elim
  · exact h3.elim
end

/-! ### a[::-1] of texts and lists -/
theorem RepDs_rev {K : PySem.W.Frag} {H : Hp} : ∀ {ds : List D} {vs : List V}, RepDs K H ds vs → RepDs K H ds.reverse vs.reverse
  | [], vs, h => by simp only [RepDs] at h; subst h; simp [RepDs]
  | d :: ds, vs, h => by
    simp only [RepDs] at h
    obtain ⟨v, ws, rfl, h1, h2⟩ := h
    rw [List.reverse_cons, List.reverse_cons]
    exact RepDs_app (RepDs_rev h2) (by simp only [RepDs]; exact ⟨v, [], rfl, h1, rfl⟩)
def fRev : O → Option O
  | .s (.str x) => some (.s (.str x.reverse))
  | .s (.scr ds) => some (.l (ds.reverse.map .s))
  | .s (.tup ds) => some (.s (.tup ds.reverse))
  | a => match lstO a with
    | some ds => some (.l (ds.reverse.map .s))
    | none => none
theorem rev_idx (n : Nat) : Builtin.Str.strSliceIndices none none (-1) n = (List.range n).reverse := by
  show sliceRange ((n : Int) - 1) (-1) (-1) = _
  rw [PySem.W.krv_sliceRange, PySem.W.krv_range]
def tRev (K : PySem.W.Frag) (te : TE) : TE := fun σ H Q => te σ H fun x H1 => (∃ a xs, x = .ref a ∧ SqT K H1 a xs ∧ ∀ p, H1 p = none → Q (.ref p) (upd H1 p (.tup xs.reverse))) ∨ (∃ a xs, x = .ref a ∧ SqL K H1 a xs ∧ ∀ p, H1 p = none → Q (.ref p) (upd H1 p (.lst xs.reverse))) ∨ ∃ z : List Nat, x = strV z ∧ z.length ≤ sizeLine ∧ Q (strV z.reverse) H1
theorem pe_rev {X : Cx} {e : Expr} {te : TE} {k : Nat} {p1 p2 p3 pos : Pos} (he : PE X e te) : PE X (.Subscript e (.Slice none none (some (.UnaryOp .USub (.Constant (.int 1) k p1) p2)) p3) pos) (tRev X.K te) := by
  constructor
  intro pins s σ H Q I h
  refine PyProof.Rows.Subscript_ (thn (he.run pins s σ H _ I h) fun v s1 ⟨x, H1, I1, r1, q1⟩ => ?_)
  have hst : PO X (some (.UnaryOp .USub (.Constant (.int 1) k p1) p2)) (tPart (tUn (rU fun i => .int (-i)) (tC (.int 1)))) := po_some (pe_un un_neg pe_int)
  refine wpAny_Slice (thn (po_none.run pins s1 σ H1 (fun o H2 => o = none ∧ H2 = H1) I1 ⟨rfl, rfl⟩) fun vl s2 ⟨l, H2, I2, pl, el, e2⟩ => ?_)
  subst el e2
  refine thn (po_none.run pins s2 σ H2 (fun o H3 => o = none ∧ H3 = H2) I2 ⟨rfl, rfl⟩) fun vu s3 ⟨u, H3, I3, pu, eu, e3⟩ => ?_
  subst eu e3
  refine thn (hst.run pins s3 σ H3 (fun o H4 => o = some (-1) ∧ H4 = H3) I3 ⟨1, rfl, -1, rfl, rfl, rfl⟩) fun vs s4 ⟨o, H4, I4, ps, eo, e4⟩ => ?_
  subst eo e4
  have I5 : L2.Inv X pins σ H4 { s4 with heap := s4.heap.push { cls := .type "slice", data := .fields #[vl, vu, vs] } } := I4.kept (t' := s4.toks) fun b ob q => Heap.get?_push_of_some _ q
  rcases q1 with ⟨a, xs, ex, hx, q⟩ | ⟨a, xs, ex, hx, q⟩ | ⟨z, ex, hz, q⟩
  · subst ex
    cases r1
    obtain ⟨its, r, ht, hz⟩ := I5.tuple hx
    refine PyProof.Rows.tail_any (ops := [.ref a, .ref s4.heap.objs.size]) ht.typeIs (PyProof.Rows.slot_tuple_getitem.lookup) ?_ (by with_unfolding_all rfl)
    refine HT.getItem_tuple_rev ht (Heap.IsSliceOf.new _ vl vu vs) pl pu ps ?_ (by rw [List.size_toArray, ← r.length]; exact hz)
    refine ⟨.ref _, _, I5.laid (t' := s4.toks) (o := .tup xs.reverse) (fun b ob q => Heap.get?_push_of_some _ q) (Nat.le_refl _) ?_, rfl, q _ (I5.hok.fresh (Nat.le_refl _))⟩
    exact ⟨by rw [List.length_reverse]; exact hz, _, r.reverse, ⟨_, Heap.get?_push_size _ rfl, rfl, 0, by simp⟩⟩
  · subst ex
    cases r1
    obtain ⟨its, r, ht, hz⟩ := I5.list hx
    have hlen := r.length
    refine PyProof.Rows.tail_any (ops := [.ref a, .ref s4.heap.objs.size]) ht.isList.typeIs (PySem.slot_list_getitem.lookup) ?_ (by with_unfolding_all rfl)
    refine wpAny_getItem_list_slice ht.isList (Heap.IsSliceOf.new _ vl vu vs) pl pu ps (by decide) ?_ (by rw [List.size_toArray]; omega)
    rw [PySem.W.krv_pick]
    refine ⟨.ref _, _, I5.laid (t' := s4.toks) (o := .lst xs.reverse) (fun b ob q => Heap.get?_push_of_some _ q) (Nat.le_refl _) ?_, rfl, q _ (I5.hok.fresh (Nat.le_refl _))⟩
    exact ⟨by rw [List.length_reverse]; exact hz, _, 0, r.reverse, Heap.get?_push_size _ rfl⟩
  · subst ex
    obtain ⟨t, rfl⟩ := r1
    obtain ⟨l, el, hl⟩ := IsPart.raw pl
    obtain ⟨u, eu, hu⟩ := IsPart.raw pu
    obtain ⟨w, ew, hw⟩ := IsPart.raw ps
    subst el eu ew
    refine PyProof.Rows.tail_any (ops := [.ref s4.heap.objs.size, .str ⟨z.toArray⟩ t]) (typeIs_str _ _ _) PySem.F.slot_str_getitem.lookup ?_ (by with_unfolding_all rfl)
    refine wpAny_getItem_str_slice (l := l) (u := u) (st := w) (Heap.IsSliceOf.new _ _ _ _) (by rw [hw]; rfl) ?_
    have em : sliceMade ⟨z.toArray⟩ t l u w = .str ⟨z.reverse.toArray⟩ := by
      unfold sliceMade slicePicked
      rw [hl, hu, hw]
      rw [if_neg (by show ¬ ((((-1 : Int) == 1) && _) = true); simp)]
      show Made.str ⟨((Builtin.Str.strSliceIndices none none (-1) (Str.length ⟨z.toArray⟩)).filterMap (z.toArray[·]?)).toArray⟩ = _
      rw [rev_idx, strV_len, List.filterMap_reverse]
      have := PySem.W.krv_all z.toArray
      simp only [List.size_toArray] at this
      rw [this]
    rw [em]
    refine ⟨by show (⟨z.reverse.toArray⟩ : Str).length ≤ sizeLine; rw [strV_len, List.length_reverse]; exact hz, strV z.reverse, H4, I5.tok _, ⟨_, rfl⟩, q⟩
def eRev (m : EM Rs) : EM Rs := op1 fRev m
theorem m_rev {X : Cx} {cx : Nat → Addr} {W : WX} {e : Expr} {me : EM Rs} {k : Nat} {p1 p2 p3 pos : Pos} (he : PE X e (tE X.K cx W me)) : PE X (.Subscript e (.Slice none none (some (.UnaryOp .USub (.Constant (.int 1) k p1) p2)) p3) pos) (tE X.K cx W (eRev me)) := PEimp (pe_rev he) fun σ H Q h => by
  have hf : OpOk1 X.K fRev (fun x H1 Q => (∃ a xs, x = .ref a ∧ SqT X.K H1 a xs ∧ ∀ p, H1 p = none → Q (.ref p) (upd H1 p (.tup xs.reverse))) ∨ (∃ a xs, x = .ref a ∧ SqL X.K H1 a xs ∧ ∀ p, H1 p = none → Q (.ref p) (upd H1 p (.lst xs.reverse))) ∨ ∃ z : List Nat, x = strV z ∧ z.length ≤ sizeLine ∧ Q (strV z.reverse) H1) := fun T H t a o v Q L ha e k => by
    unfold fRev at e
    split at e
    · rename_i x
      cases e
      obtain ⟨rfl, s1⟩ := is_str ha
      refine .inr (.inr ⟨x, rfl, by rw [sizeLine_eq]; exact s1.1, k _ T H Gr.refl L (out_str ⟨by rw [List.length_reverse]; exact s1.1, fun c hc => s1.2 c (List.mem_reverse.mp hc)⟩)⟩)
    · rename_i ds
      cases e
      have h1 := is_d ha
      simp only [RepD] at h1
      obtain ⟨l, vs, rfl, hl, r⟩ := h1
      refine .inr (.inl ⟨l, vs, rfl, SqL_mono (fun _ _ e => (S_some.mp e).2) hl, fun p hp => ?_⟩)
      obtain ⟨g, l', w⟩ := out_lst (t := t) hp L (RepDs_rev r)
      exact k _ _ _ g l' w
    · rename_i ds
      cases e
      have h1 := is_d ha
      simp only [RepD] at h1
      obtain ⟨l, vs, rfl, hl, r⟩ := h1
      refine .inl ⟨l, vs, rfl, SqT_mono (fun _ _ e => (S_some.mp e).2) hl, fun p hp => ?_⟩
      obtain ⟨g, l', w⟩ := out_tup (t := t) hp L (RepDs_rev r)
      exact k _ _ _ g l' w
    · split at e
      · rename_i ds q1
        cases e
        obtain ⟨l, vs, rfl, hl, r⟩ := is_lst ha q1
        refine .inr (.inl ⟨l, vs, rfl, .inl (.inl hl), fun p hp => ?_⟩)
        obtain ⟨g, l', w⟩ := out_lst (t := t) hp L (RepDs_rev r)
        exact k _ _ _ g l' w
      · cases e
  exact op1_go hf h
end MI
/-! MiOps4: built-in functions, methods of lists and of texts upon values. -/
namespace MI
open PySem L2 PySem.StrLaws

section
variable {K : PySem.W.Frag} {T : TM} {H : Hp} {t : Nat} {v : V}
theorem reps1 {a : O} {vs : List V} (h : Reps K T H [a] vs) : ∃ v, vs = [v] ∧ Is K T H a v := by
  obtain ⟨v, ws, rfl, h1, h2⟩ := h
  cases h2
  exact ⟨v, rfl, h1⟩
theorem reps2 {a b : O} {vs : List V} (h : Reps K T H [a, b] vs) : ∃ v w, vs = [v, w] ∧ Is K T H a v ∧ Is K T H b w := by
  obtain ⟨v, ws, rfl, h1, h2⟩ := h
  obtain ⟨w, rfl, h3⟩ := reps1 h2
  exact ⟨v, w, rfl, h1, h3⟩
/-- a list or a tuple, its items -/
def seqO : O → Option (List D)
  | .s (.tup ds) => some ds
  | .s (.scr ds) => some ds
  | o => lstO o
theorem is_seq {a : O} {ds : List D} (h : Is K T H a v) (e : seqO a = some ds) : ∃ p vs, v = .ref p ∧ (SqL K H p vs ∨ SqT K H p vs) ∧ RepDs K (S T H) ds vs := by
  unfold seqO at e
  split at e
  · cases e
    have h1 := is_d h
    simp only [RepD] at h1
    obtain ⟨l, vs, rfl, hl, r⟩ := h1
    exact ⟨l, vs, rfl, .inr (SqT_mono (fun _ _ e => (S_some.mp e).2) hl), r⟩
  · cases e
    have h1 := is_d h
    simp only [RepD] at h1
    obtain ⟨l, vs, rfl, hl, r⟩ := h1
    exact ⟨l, vs, rfl, .inl (SqL_mono (fun _ _ e => (S_some.mp e).2) hl), r⟩
  · obtain ⟨l, vs, rfl, hl, r⟩ := is_lst h e
    exact ⟨l, vs, rfl, .inl (.inl (.inl hl)), r⟩
/-- a list, its items -/
def lsqO : O → Option (List D)
  | .s (.scr ds) => some ds
  | o => lstO o
theorem is_lsq {a : O} {ds : List D} (h : Is K T H a v) (e : lsqO a = some ds) : ∃ p vs, v = .ref p ∧ SqL K H p vs ∧ RepDs K (S T H) ds vs := by
  unfold lsqO at e
  split at e
  · cases e
    have h1 := is_d h
    simp only [RepD] at h1
    obtain ⟨l, vs, rfl, hl, r⟩ := h1
    exact ⟨l, vs, rfl, SqL_mono (fun _ _ e => (S_some.mp e).2) hl, r⟩
  · obtain ⟨l, vs, rfl, hl, r⟩ := is_lst h e
    exact ⟨l, vs, rfl, .inl (.inl hl), r⟩
end

/-! ### len, abs, int, min, max, list, tuple, all, any, sum -/
def fLen : List O → Option O
  | [.s (.str x)] => some (.s (.int x.length))
  | [a] => match seqO a with
    | some ds => some (.s (.int ds.length))
    | none => none
  | _ => none
def fAbs : List O → Option O
  | [.s (.int i)] => some (.s (.int (if i < 0 then -i else i)))
  | _ => none
def fInt : List O → Option O
  | [.s (.int i)] => some (.s (.int i))
  | [.s (.bl b)] => some (.s (.int (if b then 1 else 0)))
  | _ => none
def fMin : List O → Option O
  | [.s (.int i), .s (.int j)] => some (.s (.int (if j < i then j else i)))
  | _ => none
def fMax : List O → Option O
  | [.s (.int i), .s (.int j)] => some (.s (.int (if j > i then j else i)))
  | _ => none
def fList : List O → Option O
  | [a] => match seqO a with
    | some ds => some (.l (ds.map .s))
    | none => none
  | _ => none
def fTuple : List O → Option O
  | [a] => match lsqO a with
    | some ds => some (.s (.tup ds))
    | none => match a with
      | .s (.tup ds) => some (.s (.tup ds))
      | _ => none
  | _ => none
def blsOf : List D → Option (List Bool)
  | [] => some []
  | .bl b :: ds => match blsOf ds with
    | some bs => some (b :: bs)
    | none => none
  | _ :: _ => none
def intsOf : List D → Option (List Int)
  | [] => some []
  | .int b :: ds => match intsOf ds with
    | some bs => some (b :: bs)
    | none => none
  | _ :: _ => none
def strsOf : List D → Option (List (List Nat))
  | [] => some []
  | .str b :: ds => match strsOf ds with
    | some bs => some (b :: bs)
    | none => none
  | _ :: _ => none
theorem blsOf_eq : ∀ {ds : List D} {bs : List Bool}, blsOf ds = some bs → ds = bs.map .bl
  | [], bs, h => by cases h; rfl
  | d :: ds, bs, h => by
    unfold blsOf at h
    split at h
    · cases ‹d :: ds = []›
    · rename_i heq
      split at h
      · rename_i q
        cases h
        cases heq
        rw [blsOf_eq q]
        rfl
      · cases h
    · cases h
theorem intsOf_eq : ∀ {ds : List D} {bs : List Int}, intsOf ds = some bs → ds = bs.map .int
  | [], bs, h => by cases h; rfl
  | d :: ds, bs, h => by
    unfold intsOf at h
    split at h
    · cases ‹d :: ds = []›
    · rename_i heq
      split at h
      · rename_i q
        cases h
        cases heq
        rw [intsOf_eq q]
        rfl
      · cases h
    · cases h
theorem strsOf_eq : ∀ {ds : List D} {bs : List (List Nat)}, strsOf ds = some bs → ds = bs.map .str
  | [], bs, h => by cases h; rfl
  | d :: ds, bs, h => by
    unfold strsOf at h
    split at h
    · cases ‹d :: ds = []›
    · rename_i heq
      split at h
      · rename_i q
        cases h
        cases heq
        rw [strsOf_eq q]
        rfl
      · cases h
    · cases h
def fAll : List O → Option O
  | [a] => match lsqO a with
    | some ds => match blsOf ds with
      | some bs => some (.s (.bl (bs.all id)))
      | none => none
    | none => none
  | _ => none
def fAny : List O → Option O
  | [a] => match lsqO a with
    | some ds => match blsOf ds with
      | some bs => some (.s (.bl (bs.any id)))
      | none => none
    | none => none
  | _ => none
def fSum : List O → Option O
  | [a] => match lsqO a with
    | some ds => match intsOf ds with
      | some bs => some (.s (.int bs.sum))
      | none => none
    | none => none
  | _ => none
section
variable {K : PySem.W.Frag}
theorem reps_bl {H : Hp} : ∀ {bs : List Bool} {vs : List V}, RepDs K H (bs.map .bl) vs → vs = bs.map V.bl
  | [], vs, h => by simpa only [List.map_nil, RepDs] using h
  | b :: bs, vs, h => by
    simp only [List.map_cons, RepDs, RepD] at h
    obtain ⟨v, ws, rfl, rfl, h2⟩ := h
    rw [reps_bl h2]
    rfl
theorem reps_int {H : Hp} : ∀ {bs : List Int} {vs : List V}, RepDs K H (bs.map .int) vs → vs = bs.map V.int
  | [], vs, h => by simpa only [List.map_nil, RepDs] using h
  | b :: bs, vs, h => by
    simp only [List.map_cons, RepDs, RepD] at h
    obtain ⟨v, ws, rfl, rfl, h2⟩ := h
    rw [reps_int h2]
    rfl
theorem reps_str {H : Hp} : ∀ {bs : List (List Nat)} {vs : List V}, RepDs K H (bs.map .str) vs → vs = (bs.map fun b => (⟨b.toArray⟩ : Str)).map V.str ∧ ∀ b ∈ bs, SOk b
  | [], vs, h => by
    simp only [List.map_nil, RepDs] at h
    exact ⟨by simpa using h, fun b hb => by simp at hb⟩
  | b :: bs, vs, h => by
    simp only [List.map_cons, RepDs, RepD] at h
    obtain ⟨v, ws, rfl, ⟨rfl, s1⟩, h2⟩ := h
    obtain ⟨e, s2⟩ := reps_str h2
    rw [e]
    refine ⟨rfl, fun c hc => ?_⟩
    rcases List.mem_cons.mp hc with rfl | z
    · exact s1
    · exact s2 c z
theorem ok_len : OpOkN K fLen (fun xs H Q => ∃ x n, xs = [x] ∧ LenV K x H n ∧ Q (.int n) H) := fun T H t as o vs Q L ha e k => by
  unfold fLen at e
  split at e
  · cases e
    obtain ⟨v, rfl, h⟩ := reps1 ha
    obtain ⟨rfl, s1⟩ := is_str h
    refine ⟨_, _, rfl, ⟨by rw [strV_len, sizeLine_eq]; exact s1.1, rfl⟩, ?_⟩
    rw [strV_len]
    exact k _ T H Gr.refl L out_int
  · split at e
    · rename_i ds q
      cases e
      obtain ⟨v, rfl, h⟩ := reps1 ha
      obtain ⟨p, ws, rfl, hs, r⟩ := is_seq h q
      have hn := RepDs_len r
      refine ⟨.ref p, ws.length, rfl, ?_, by rw [hn]; exact k _ T H Gr.refl L out_int⟩
      rcases hs with hs | hs
      · exact .inl ⟨ws, hs, rfl⟩
      · exact .inr ⟨ws, hs, rfl⟩
    · cases e
  · cases e
theorem ok_abs : OpOkN K fAbs (fun xs H Q => ∃ i, xs = [.int i] ∧ Q (.int (if i < 0 then -i else i)) H) := fun T H t as o vs Q L ha e k => by
  unfold fAbs at e
  split at e
  · cases e
    obtain ⟨v, rfl, h⟩ := reps1 ha
    cases is_int h
    exact ⟨_, rfl, k _ T H Gr.refl L out_int⟩
  · cases e
theorem ok_int : OpOkN K fInt (fun xs H Q => (∃ i, xs = [.int i] ∧ Q (.int i) H) ∨ ∃ k, xs = [.bl k] ∧ Q (.int (if k then 1 else 0)) H) := fun T H t as o vs Q L ha e k => by
  unfold fInt at e
  split at e
  · cases e
    obtain ⟨v, rfl, h⟩ := reps1 ha
    cases is_int h
    exact .inl ⟨_, rfl, k _ T H Gr.refl L out_int⟩
  · cases e
    obtain ⟨v, rfl, h⟩ := reps1 ha
    cases is_bl h
    exact .inr ⟨_, rfl, k _ T H Gr.refl L out_int⟩
  · cases e
theorem ok_min : OpOkN K fMin (fun xs H Q => ∃ i j, xs = [.int i, .int j] ∧ Q (.int (if j < i then j else i)) H) := fun T H t as o vs Q L ha e k => by
  unfold fMin at e
  split at e
  · cases e
    obtain ⟨v, w, rfl, h, h2⟩ := reps2 ha
    cases is_int h
    cases is_int h2
    exact ⟨_, _, rfl, k _ T H Gr.refl L out_int⟩
  · cases e
theorem ok_max : OpOkN K fMax (fun xs H Q => ∃ i j, xs = [.int i, .int j] ∧ Q (.int (if j > i then j else i)) H) := fun T H t as o vs Q L ha e k => by
  unfold fMax at e
  split at e
  · cases e
    obtain ⟨v, w, rfl, h, h2⟩ := reps2 ha
    cases is_int h
    cases is_int h2
    exact ⟨_, _, rfl, k _ T H Gr.refl L out_int⟩
  · cases e
theorem ok_list : OpOkN K fList (fun xs H Q => ∃ p ys, xs = [.ref p] ∧ (SqL K H p ys ∨ SqT K H p ys) ∧ ∀ l, H l = none → Q (.ref l) (upd H l (.lst ys))) := fun T H t as o vs Q L ha e k => by
  unfold fList at e
  split at e
  · split at e
    · rename_i ds q
      cases e
      obtain ⟨v, rfl, h⟩ := reps1 ha
      obtain ⟨p, ws, rfl, hs, r⟩ := is_seq h q
      refine ⟨p, ws, rfl, hs, fun l hl => ?_⟩
      obtain ⟨g, l', z⟩ := out_lst (t := t) hl L r
      exact k _ _ _ g l' z
    · cases e
  · cases e
theorem ok_tuple : OpOkN K fTuple (fun xs H Q => ∃ p ys, xs = [.ref p] ∧ ((SqL K H p ys ∧ ∀ l, H l = none → Q (.ref l) (upd H l (.tup ys))) ∨ (SqT K H p ys ∧ Q (.ref p) H))) := fun T H t as o vs Q L ha e k => by
  unfold fTuple at e
  split at e
  · split at e
    · rename_i ds q
      cases e
      obtain ⟨v, rfl, h⟩ := reps1 ha
      obtain ⟨p, ws, rfl, hs, r⟩ := is_lsq h q
      refine ⟨p, ws, rfl, .inl ⟨hs, fun l hl => ?_⟩⟩
      obtain ⟨g, l', z⟩ := out_tup (t := t) hl L r
      exact k _ _ _ g l' z
    · split at e
      · cases e
        obtain ⟨v, rfl, h⟩ := reps1 ha
        have h1 := is_d h
        have h0 := h1
        simp only [RepD] at h1
        obtain ⟨l, vs, rfl, hl, r⟩ := h1
        exact ⟨l, vs, rfl, .inr ⟨SqT_mono (fun _ _ e => (S_some.mp e).2) hl, k _ T H Gr.refl L (out_d h0)⟩⟩
      · cases e
  · cases e
theorem ok_all : OpOkN K fAll (rAll K) := fun T H t as o vs Q L ha e k => by
  unfold fAll at e
  split at e
  · split at e
    · rename_i ds q
      split at e
      · rename_i bs q2
        cases e
        obtain ⟨v, rfl, h⟩ := reps1 ha
        obtain ⟨p, ws, rfl, hs, r⟩ := is_lsq h q
        rw [blsOf_eq q2] at r
        rw [reps_bl r] at hs
        exact ⟨p, bs, rfl, hs, k _ T H Gr.refl L out_bl⟩
      · cases e
    · cases e
  · cases e
theorem ok_any : OpOkN K fAny (rAny K) := fun T H t as o vs Q L ha e k => by
  unfold fAny at e
  split at e
  · split at e
    · rename_i ds q
      split at e
      · rename_i bs q2
        cases e
        obtain ⟨v, rfl, h⟩ := reps1 ha
        obtain ⟨p, ws, rfl, hs, r⟩ := is_lsq h q
        rw [blsOf_eq q2] at r
        rw [reps_bl r] at hs
        exact ⟨p, bs, rfl, hs, k _ T H Gr.refl L out_bl⟩
      · cases e
    · cases e
  · cases e
theorem ok_sum : OpOkN K fSum (rSum K) := fun T H t as o vs Q L ha e k => by
  unfold fSum at e
  split at e
  · split at e
    · rename_i ds q
      split at e
      · rename_i bs q2
        cases e
        obtain ⟨v, rfl, h⟩ := reps1 ha
        obtain ⟨p, ws, rfl, hs, r⟩ := is_lsq h q
        rw [intsOf_eq q2] at r
        rw [reps_int r] at hs
        exact ⟨p, bs, rfl, hs, k _ T H Gr.refl L out_int⟩
      · cases e
    · cases e
  · cases e
end

/-! ### isinstance -/
def tyD : D → Option String
  | .non => some "NoneType"
  | .bl _ => some "bool"
  | .int _ => some "int"
  | .str _ => some "str"
  | .tup _ => some "tuple"
  | .lst _ => some "list"
  | .scr _ => some "list"
  | _ => none
def tyO : O → Option String
  | .s d => tyD d
  | .l _ => some "list"
/-- is a value of the type a one of type b -/
def isTy (a b : String) : Option Bool :=
  if b = "int" then some (a == "int" || a == "bool") else if b = "str" ∨ b = "bool" ∨ b = "list" ∨ b = "tuple" then some (a == b) else none
def isTys (a : String) : List D → Option Bool
  | [] => some false
  | .ty b :: ds => match isTy a b, isTys a ds with
    | some true, some _ => some true
    | some false, some k => some k
    | _, _ => none
  | _ :: _ => none
def fIsi : List O → Option O
  | [a, .s (.ty b)] => match tyO a with
    | some n => match isTy n b with
      | some k => some (.s (.bl k))
      | none => none
    | none => none
  | [a, .s (.tup ds)] => match tyO a with
    | some n => match isTys n ds with
      | some k => some (.s (.bl k))
      | none => none
    | none => none
  | _ => none
section
variable {K : PySem.W.Frag} {T : TM} {H : Hp}
theorem tyD_ok {d : D} {v : V} {n : String} (h : RepD K H d v) (e : tyD d = some n) : TyX K H v (.type n) ∧ (n = "NoneType" ∨ n = "bool" ∨ n = "int" ∨ n = "str" ∨ n = "tuple" ∨ n = "list") := by
  unfold tyD at e
  split at e
  · cases e; simp only [RepD] at h; subst h; exact ⟨.base .non, by simp⟩
  · cases e; simp only [RepD] at h; subst h; exact ⟨.base (.bl _), by simp⟩
  · cases e; simp only [RepD] at h; subst h; exact ⟨.base (.int _), by simp⟩
  · cases e; simp only [RepD] at h; obtain ⟨rfl, _⟩ := h; exact ⟨.base (.str _), by simp⟩
  · cases e
    simp only [RepD] at h
    obtain ⟨a, vs, rfl, h, _⟩ := h
    rcases h with (h | ⟨o, h⟩) | ⟨o, _, _, h, c, _⟩
    · exact ⟨.base (.tup h), by simp⟩
    · exact ⟨.fTuple h, by simp⟩
    · exact ⟨.kTuple h c, by simp⟩
  · cases e; simp only [RepD] at h; obtain ⟨a, vs, rfl, h, _⟩ := h; exact ⟨.base (.lst h), by simp⟩
  · cases e
    simp only [RepD] at h
    obtain ⟨a, vs, rfl, h, _⟩ := h
    rcases h with (h | ⟨o, h⟩) | ⟨o, _, _, h, c, _⟩
    · exact ⟨.base (.lst h), by simp⟩
    · exact ⟨.base (.frz h), by simp⟩
    · exact ⟨.kList h c, by simp⟩
  · cases e
theorem tyO_ok {a : O} {v : V} {n : String} (h : Is K T H a v) (e : tyO a = some n) : TyX K H v (.type n) ∧ (n = "NoneType" ∨ n = "bool" ∨ n = "int" ∨ n = "str" ∨ n = "tuple" ∨ n = "list") := by
  obtain ⟨r, p, h⟩ := h
  cases a with
  | s d => exact tyD_ok (RepO_view _ _ _ h) e
  | l os =>
    cases e
    simp only [RepO] at h
    obtain ⟨a, vs, rfl, _, h, _⟩ := h
    exact ⟨.base (.lst h), by simp⟩
theorem isTy_ok {a b : String} {k : Bool} (ha : a = "NoneType" ∨ a = "bool" ∨ a = "int" ∨ a = "str" ∨ a = "tuple" ∨ a = "list") (e : isTy a b = some k) : PySem.W.kitOne K (.type a) (.type b) = some k := by
  refine kit_ty ?_
  unfold isTy at e
  split at e
  · rename_i hb
    subst hb
    cases e
    rcases ha with rfl | rfl | rfl | rfl | rfl | rfl <;> decide +kernel
  · split at e
    · rename_i hb
      cases e
      rcases hb with rfl | rfl | rfl | rfl <;> rcases ha with rfl | rfl | rfl | rfl | rfl | rfl <;> decide +kernel
    · cases e
theorem isTys_ok {a : String} (ha : a = "NoneType" ∨ a = "bool" ∨ a = "int" ∨ a = "str" ∨ a = "tuple" ∨ a = "list") : ∀ {ds : List D} {vs : List V} {k : Bool}, RepDs K H ds vs → isTys a ds = some k →
    ∃ us, Paired ClsV vs us ∧ PySem.W.kitAny K (.type a) us = some k
  | [], vs, k, h, e => by
    simp only [RepDs] at h
    subst h
    cases e
    exact ⟨[], .nil, rfl⟩
  | d :: ds, vs, k, h, e => by
    simp only [RepDs] at h
    obtain ⟨v, ws, rfl, h1, h2⟩ := h
    unfold isTys at e
    split at e
    · cases ‹d :: ds = []›
    · rename_i b _ heq
      cases heq
      simp only [RepD] at h1
      subst h1
      split at e
      · rename_i q1 q2
        cases e
        obtain ⟨us, p, q⟩ := isTys_ok ha h2 q2
        exact ⟨.type b :: us, .cons (.ty b) p, kitAny_cons (isTy_ok ha q1) (fun z => by cases z) fun _ => rfl⟩
      · rename_i q1 q2
        cases e
        obtain ⟨us, p, q⟩ := isTys_ok ha h2 q2
        exact ⟨.type b :: us, .cons (.ty b) p, kitAny_cons (isTy_ok ha q1) (fun _ => q) fun z => by cases z⟩
      · cases e
    · cases e
def rIsiQ (K : PySem.W.Frag) : List V → Hp → VK → Prop := fun xs H Q => ∃ (x : V) (tp : Addr) (cs : List V) (t : Value) (us : List Value) (b : Bool), xs = [x, .ref tp] ∧ SqT K H tp cs ∧ Paired ClsV cs us ∧ TyX K H x t ∧ PySem.W.kitAny K t us = some b ∧ Q (.bl b) H
theorem call_isiQ {X : Cx} : CallR X (.builtin "isinstance") (rIsiQ X.K) := by
  intro pins s σ H xs us Q I r h
  obtain ⟨x, tp, cs, t, ws, b, rfl, hT, k, ty, e, q⟩ := h
  obtain ⟨u1, u2, rfl, r1, r2⟩ := vals2 r
  cases (show u2 = Value.ref tp from r2)
  obtain ⟨P, Z, p, hx⟩ := kit_of I r1 ty
  obtain ⟨its, rv, ⟨o, h1, h2, n, h3⟩, _⟩ := I.tuple hT
  have e3 := ClsV.all k rv
  subst e3
  obtain ⟨oc, od, dt, sl⟩ := o
  simp only at h2 h3
  subst h2 h3
  exact PySem.W.kia_tup Z I.kIn p h1 e hx fun tk => ⟨.bl b, H, I.tok tk, rfl, q⟩
theorem call_isiA {X : Cx} : CallR X (.builtin "isinstance") (fun vs H Q => rIsi X.K vs H Q ∨ rIsiQ X.K vs H Q) := by
  intro pins s σ H xs us Q I r h
  rcases h with h | h
  · exact call_isi pins s σ H xs us Q I r h
  · exact call_isiQ pins s σ H xs us Q I r h
theorem ok_isi : OpOkN K fIsi (fun vs H Q => rIsi K vs H Q ∨ rIsiQ K vs H Q) := fun T H t as o vs Q L ha e k => by
  unfold fIsi at e
  split at e
  · split at e
    · rename_i n q
      split at e
      · rename_i z q2
        cases e
        obtain ⟨v, w, rfl, h, h2⟩ := reps2 ha
        have hw := is_d h2
        simp only [RepD] at hw
        subst hw
        obtain ⟨ty, hn⟩ := tyO_ok h q
        exact .inl ⟨v, _, _, _, z, rfl, .ty _, ty, isTy_ok hn q2, k _ T H Gr.refl L out_bl⟩
      · cases e
    · cases e
  · split at e
    · rename_i n q
      split at e
      · rename_i z q2
        cases e
        obtain ⟨v, w, rfl, h, h2⟩ := reps2 ha
        have hw := is_d h2
        simp only [RepD] at hw
        obtain ⟨tp, ws, rfl, hs, r⟩ := hw
        obtain ⟨ty, hn⟩ := tyO_ok h q
        obtain ⟨us, pu, qk⟩ := isTys_ok hn r q2
        exact .inr ⟨v, tp, ws, _, us, z, rfl, SqT_mono (fun _ _ e => (S_some.mp e).2) hs, pu, ty, qk, k _ T H Gr.refl L out_bl⟩
      · cases e
    · cases e
  · cases e
end
end MI
/-! MiOps5: methods that change a list; methods of texts. -/
namespace MI
open PySem L2 PySem.StrLaws

/-! ### append, extend, pop(i) -/
def fApp (os : List O) : List D → Option (D × List O)
  | [d] => if os.length < 16777216 then some (.non, os ++ [.s d]) else none
  | _ => none
def fExt (os : List O) : List D → Option (D × List O)
  | [.lst ds] => if os.length + ds.length ≤ 16777216 then some (.non, os ++ ds.map .s) else none
  | _ => none
def fPop (os : List O) : List D → Option (D × List O)
  | [.int i] => match allS os with
    | some ds => if decide (-9223372036854775808 ≤ i) && decide (i < 9223372036854775808) then match seqIndex? i ds.length with
      | some k => match ds[k]? with
        | some d => some (d, (ds.eraseIdx k).map .s)
        | none => none
      | none => none else none
    | none => none
  | _ => none
section
variable {K : PySem.W.Frag}
theorem mu_app : MutOk K fApp rAppend := fun T H i os vs ds ws a d os' Q r h rd e k => by
  unfold fApp at e
  split at e
  · split at e
    · rename_i q
      cases e
      simp only [RepDs] at rd
      obtain ⟨w, z, rfl, rw', rfl⟩ := rd
      refine ⟨a, vs, w, rfl, rfl, h, by rw [RepOs_len r, sizeLine_eq]; exact q, ?_⟩
      exact k _ _ (by simp only [RepD]) (RepOs_app (ds := [_]) r (by simp only [RepDs]; exact ⟨w, [], rfl, rw', rfl⟩))
    · cases e
  · cases e
theorem mu_ext : MutOk K fExt rExtend := fun T H i os vs ds ws a d os' Q r h rd e k => by
  unfold fExt at e
  split at e
  · split at e
    · rename_i q
      cases e
      simp only [RepDs, RepD] at rd
      obtain ⟨w, z, rfl, ⟨b, us, rfl, hb, ru⟩, rfl⟩ := rd
      refine ⟨a, b, vs, us, rfl, rfl, h, (S_some.mp hb).2, by rw [RepOs_len r, RepDs_len ru, sizeLine_eq]; exact q, ?_⟩
      exact k _ _ (by simp only [RepD]) (RepOs_app r ru)
    · cases e
  · cases e
theorem RepDs_erase {H : Hp} : ∀ {ds : List D} {vs : List V} (n : Nat), RepDs K H ds vs → RepDs K H (ds.eraseIdx n) (vs.eraseIdx n)
  | [], vs, n, h => by simp only [RepDs] at h; subst h; simp [RepDs]
  | d :: ds, vs, n, h => by
    simp only [RepDs] at h
    obtain ⟨v, ws, rfl, h1, h2⟩ := h
    cases n with
    | zero => exact h2
    | succ n => simp only [List.eraseIdx_cons_succ, RepDs]; exact ⟨v, _, rfl, h1, RepDs_erase n h2⟩
theorem mu_pop : MutOk K fPop rPopAt := fun T H i os vs ds ws a d os' Q r h rd e k => by
  unfold fPop at e
  split at e
  · split at e
    · rename_i es q
      split at e
      · rename_i q2
        split at e
        · rename_i j q3
          split at e
          · rename_i d2 q4
            cases e
            simp only [Bool.and_eq_true, decide_eq_true_eq] at q2
            cases allS_map q
            simp only [RepDs, RepD] at rd
            obtain ⟨w, z, rfl, rfl, rfl⟩ := rd
            have rr := RepOs_ds r
            obtain ⟨y, hy, ry⟩ := RepDs_get rr q4
            refine ⟨a, vs, _, j, y, rfl, rfl, h, q2.1, q2.2, by rw [RepDs_len rr]; exact q3, hy, ?_⟩
            exact k _ _ ry (RepDs_os (RepDs_erase j rr))
          · cases e
        · cases e
      · cases e
    · cases e
  · cases e
end

/-! ### methods of texts -/
def isS (r : Rs) : EM Unit := fun e => match look e r with
  | some (.s (.str _)) => .ok () e
  | _ => .stuck
def eSm (f : O → O → Option O) (m a : EM Rs) : EM Rs := bd m fun r1 => bd (isS r1) fun _ => bd a fun r2 => fun e => match look e (opnd r1), look e r2 with
  | some o1, some o2 => match f o1 o2 with
    | some o => .ok (.v o) e
    | none => .stuck
  | _, _ => .stuck
section
variable {X : Cx} {cx : Nat → Addr} {W : WX} {o e : Expr} {mo me : EM Rs}
theorem m_sm {f : O → O → Option O} {r : V → List V → Hp → VK → Prop} {id : String} {name : Str} {apos pos : Pos} (hf : OpOk X.K f (fun v w H Q => r v [w] H Q)) (slot : PySem.Slot "str" name id) (ty : typeOf (.builtin id) = pure (.type "method_descriptor")) (rule : MtR X id r)
    (ho : PE X o (tE X.K cx W mo)) (he : PE X e (tE X.K cx W me)) (hs : starEach [e] X.env = [(false, eval e X.env)] := by rfl) (hbase : attributeBase o name X.env (eval o X.env) = eval o X.env := by rfl) (hline : (apos.endLine == pos.line) = true := by rfl) :
    PE X (.Call (.Attribute o name apos) [e] [] pos) (tE X.K cx W (eSm f mo me)) := PEimp (pe_m1 slot ty rule ho he hs hbase hline) fun σ H Q h => by
  obtain ⟨T, env, t, I, L, h⟩ := h
  refine ⟨T, env, t, I, L, h.bd fun r1 e1 T1 H1 F1 I1 L1 h1 v hv => ?_⟩
  unfold bd isS at h1
  cases q : look e1 r1 with
  | none => rw [q] at h1; exact h1.elim
  | some o1 =>
    rw [q] at h1
    cases o1 with
    | l os => exact h1.elim
    | s d =>
      cases d with
      | str x =>
        dsimp only at h1
        obtain ⟨ev, _⟩ := is_str (look_rep I1 hv q)
        refine ⟨⟨_, ev⟩, ?_⟩
        obtain ⟨F1', I1', L1', hv'⟩ := settle L F1 I1 L1 hv
        refine ⟨_, e1, t, I1', L1', Wk.bd (m := me) (h1.step F1') fun r2 e2 T2 H2 F2 I2 L2 h2 w hw => ?_⟩
        have hv2 := held (t' := t) hv' F2
        try dsimp only at h2
        split at h2
        · rename_i o1 o2 q1 q2
          split at h2
          · rename_i oo q3
            refine hf T2 H2 t o1 o2 oo v w Q L2 (look_rep I2 hv2 q1) (look_rep I2 hw q2) q3 fun u T' H' G L' ho => ?_
            exact h2 T' H' (F2.trans G.fr) (G.ei I2) L' u ho
          · exact h2.elim
        · exact h2.elim
      | _ => exact h1.elim
end
def fCount : O → O → Option O
  | .s (.str x), .s (.str [c]) => some (.s (.int (x.count c)))
  | _, _ => none
def fIndex : O → O → Option O
  | .s (.str x), .s (.str [c]) => if c ∈ x then some (.s (.int (x.idxOf c))) else none
  | _, _ => none
def fStarts : O → O → Option O
  | .s (.str x), .s (.str y) => some (.s (.bl (y.isPrefixOf x)))
  | _, _ => none
def fEnds : O → O → Option O
  | .s (.str x), .s (.str y) => some (.s (.bl (y.isSuffixOf x)))
  | _, _ => none
section
variable {K : PySem.W.Frag}
theorem cnt_count (c : Nat) : ∀ x : List Nat, PyProof.Rows.cnt c x = (x.count c : Nat)
  | [] => rfl
  | n :: r => by
    rw [PyProof.Rows.cnt_cons, cnt_count c r, List.count_cons]
    by_cases h : n = c <;> simp [h] <;> omega
theorem ok_count : OpOk K fCount (fun v w H Q => ∃ a b, v = .str a ∧ [w] = [.str b] ∧ Q (.int (Txt.count a b)) H) := fun T H t a b o v w Q L ha hb e k => by
  unfold fCount at e
  split at e
  · rename_i x c
    cases e
    obtain ⟨rfl, _⟩ := is_str ha
    obtain ⟨rfl, _⟩ := is_str hb
    refine ⟨_, _, rfl, rfl, ?_⟩
    have := PyProof.Rows.count_cnt ⟨x.toArray⟩ c
    rw [show (⟨[c].toArray⟩ : Str) = ⟨#[c]⟩ from rfl, this, cnt_count]
    exact k _ T H Gr.refl L out_int
  · cases e
theorem ok_index : OpOk K fIndex (fun v w H Q => ∃ a b i rest, v = .str a ∧ [w] = [.str b] ∧ Builtin.Str.occurrences a b 0 a.length 1 = i :: rest ∧ Q (.int (i : Nat)) H) := fun T H t a b o v w Q L ha hb e k => by
  unfold fIndex at e
  split at e
  · rename_i x c
    split at e
    · rename_i hc
      cases e
      obtain ⟨rfl, _⟩ := is_str ha
      obtain ⟨rfl, _⟩ := is_str hb
      have at_ : ∀ i, At ⟨x.toArray⟩ ⟨[c].toArray⟩ (⟨x.toArray⟩ : Str).length i ↔ x[i]? = some c := fun i => subAt_one ⟨x.toArray⟩ c i
      rcases occ_head ⟨x.toArray⟩ ⟨[c].toArray⟩ 1 (Nat.le_refl _) with ⟨_, hn⟩ | ⟨i, r, h0, h1, h2⟩
      · obtain ⟨i, hi⟩ := List.mem_iff_getElem?.mp hc
        exact absurd ((at_ i).mpr hi) (hn i)
      · have e1 := (at_ i).mp h1
        have e2 : x.idxOf c = i := by
          obtain ⟨hl, hg⟩ := List.getElem?_eq_some_iff.mp e1
          refine Nat.le_antisymm ?_ ?_
          · refine Nat.le_of_not_lt fun hlt => ?_
            have := List.not_of_lt_findIdx (show i < List.findIdx (· == c) x from hlt)
            simp [hg] at this
          · refine Nat.le_of_not_lt fun hlt => ?_
            have hx : x.idxOf c < x.length := List.idxOf_lt_length_of_mem hc
            refine h2 _ hlt ((at_ _).mpr ?_)
            rw [List.getElem?_eq_getElem hx]
            simp [List.getElem_idxOf hx]
        refine ⟨_, _, i, r, rfl, rfl, h0, ?_⟩
        rw [← e2]
        exact k _ T H Gr.refl L out_int
    · cases e
  · cases e
theorem ok_starts : OpOk K fStarts (fun v w H Q => ∃ a b, v = .str a ∧ [w] = [.str b] ∧ Q (.bl (Txt.startswith a b)) H) := fun T H t a b o v w Q L ha hb e k => by
  unfold fStarts at e
  split at e
  · rename_i x y
    cases e
    obtain ⟨rfl, _⟩ := is_str ha
    obtain ⟨rfl, _⟩ := is_str hb
    refine ⟨_, _, rfl, rfl, ?_⟩
    have : Txt.startswith ⟨x.toArray⟩ ⟨y.toArray⟩ = y.isPrefixOf x := by
      unfold Txt.startswith
      rw [Bool.eq_iff_iff, List.isPrefixOf_iff_prefix, Bool.and_eq_true, decide_eq_true_eq]
      have := pre_at (x := x) (y := y) (i := 0)
      rw [strV_len, strV_len, this]
      simp
    rw [this]
    exact k _ T H Gr.refl L out_bl
  · cases e
theorem ok_ends : OpOk K fEnds (fun v w H Q => ∃ a b, v = .str a ∧ [w] = [.str b] ∧ Q (.bl (Txt.endswith a b)) H) := fun T H t a b o v w Q L ha hb e k => by
  unfold fEnds at e
  split at e
  · rename_i x y
    cases e
    obtain ⟨rfl, _⟩ := is_str ha
    obtain ⟨rfl, _⟩ := is_str hb
    refine ⟨_, _, rfl, rfl, ?_⟩
    have : Txt.endswith ⟨x.toArray⟩ ⟨y.toArray⟩ = y.isSuffixOf x := by
      unfold Txt.endswith
      rw [Bool.eq_iff_iff, List.isSuffixOf_iff_suffix, Bool.and_eq_true, decide_eq_true_eq, subAt_eq]
      simp only [strV_len, beq_iff_eq]
      rw [List.suffix_iff_eq_drop]
      constructor
      · rintro ⟨h1, h2⟩
        rw [List.take_of_length_le (by rw [List.length_drop]; omega)] at h2
        exact h2.symm
      · intro h
        have hl := congrArg List.length h
        rw [List.length_drop] at hl
        refine ⟨by omega, ?_⟩
        rw [List.take_of_length_le (by rw [List.length_drop]; omega)]
        exact h.symm
    rw [this]
    exact k _ T H Gr.refl L out_bl
  · cases e
def jn (sep : List Nat) : List (List Nat) → List Nat
  | [] => []
  | [y] => y
  | y :: ys => y ++ sep ++ jn sep ys
theorem jn_len (sep : List Nat) : ∀ ys : List (List Nat), (jn sep ys).length ≤ (ys.map List.length).sum + ys.length * sep.length
  | [] => by simp [jn]
  | [y] => by simp [jn]
  | y :: z :: ys => by
    have := jn_len sep (z :: ys)
    simp only [jn, List.length_append, List.map_cons, List.sum_cons, List.length_cons] at this ⊢
    have e : (ys.length + 1 + 1) * sep.length = (ys.length + 1) * sep.length + sep.length := by rw [Nat.add_mul (ys.length + 1) 1, Nat.one_mul]
    omega
theorem jn_mem {sep : List Nat} {c : Nat} : ∀ {ys : List (List Nat)}, c ∈ jn sep ys → c ∈ sep ∨ ∃ y ∈ ys, c ∈ y
  | [], h => by simp [jn] at h
  | [y], h => .inr ⟨y, by simp, h⟩
  | y :: z :: ys, h => by
    simp only [jn, List.mem_append] at h
    rcases h with (h | h) | h
    · exact .inr ⟨y, by simp, h⟩
    · exact .inl h
    · rcases jn_mem h with h | ⟨w, hw, hc⟩
      · exact .inl h
      · exact .inr ⟨w, List.mem_cons_of_mem _ hw, hc⟩
theorem join_jn (sep : List Nat) : ∀ ys : List (List Nat), Txt.join ⟨sep.toArray⟩ (ys.map fun b => (⟨b.toArray⟩ : Str)) = ⟨(jn sep ys).toArray⟩ := fun ys => by
  have go : ∀ ys : List (List Nat), Str.join ⟨sep.toArray⟩ (ys.map fun b => (⟨b.toArray⟩ : Str)) = ⟨(jn sep ys).toArray⟩ := by
    intro ys
    induction ys with
    | nil => rfl
    | cons y ys ih =>
      cases ys with
      | nil => rfl
      | cons z ys =>
        show (⟨y.toArray⟩ : Str) ++ ⟨sep.toArray⟩ ++ Str.join ⟨sep.toArray⟩ ((z :: ys).map fun b => (⟨b.toArray⟩ : Str)) = _
        rw [ih, strV_app, strV_app]
        rfl
  rw [← go]
  exact glued_eq_join _ _
def fJoin : O → O → Option O
  | .s (.str x), o => match seqO o with
    | some ds => match strsOf ds with
      | some ys => if (ys.map List.length).sum + ys.length * x.length ≤ 16777216 then some (.s (.str (jn x ys))) else none
      | none => none
    | none => none
  | _, _ => none
theorem ok_join : OpOk K fJoin (fun v w H Q => ∃ a p, ∃ ys : List Str, v = .str a ∧ [w] = [.ref p] ∧ (SqL K H p (ys.map V.str) ∨ SqT K H p (ys.map V.str)) ∧
    (ys.map (·.length)).sum + ys.length * a.length ≤ 16777216 ∧ Q (.str (Txt.join a ys)) H) := fun T H t a b o v w Q L ha hb e k => by
  unfold fJoin at e
  split at e
  · rename_i x
    split at e
    · rename_i ds q
      split at e
      · rename_i ys q2
        split at e
        · rename_i q3
          cases e
          obtain ⟨rfl, s1⟩ := is_str ha
          obtain ⟨p, ws, rfl, hs, r⟩ := is_seq hb q
          rw [strsOf_eq q2] at r
          obtain ⟨ew, s2⟩ := reps_str r
          rw [ew] at hs
          refine ⟨_, p, _, rfl, rfl, hs, ?_, ?_⟩
          · rw [List.map_map, List.length_map, strV_len]
            have : ((fun x : Str => x.length) ∘ fun b : List Nat => (⟨b.toArray⟩ : Str)) = List.length := by funext b; exact strV_len
            rw [this]
            exact q3
          · rw [join_jn]
            refine k _ T H Gr.refl L (out_str ⟨Nat.le_trans (jn_len x ys) q3, fun c hc => ?_⟩)
            rcases jn_mem hc with h | ⟨y, hy, hc⟩
            · exact s1.2 c h
            · exact (s2 y hy).2 c hc
        · cases e
      · cases e
    · cases e
  · cases e
end
end MI
/-! MiMore: a call with one new list, list(text), a < b < c. -/
namespace MI
open PySem L2

/-! ### f(new list): the callee has it for its own -/
def ev1 (m : EM Rs) : EM (List Rs) := bd m fun r => ret [r]
def callT (cm : List O → CR) (m : EM Rs) : EM Rs := bd m fun r => fun e => match r with
  | .v o => match cm [o] with
    | .ok o' _ => .ok (.v o') e
    | .ex c _ => .ex c e
    | .stuck => .stuck
  | .nm _ => .stuck
def tNew (t : Nat) (T : TM) : TM := fun a => match T a with
  | none => none
  | some (.tm i, p) => if i = t then some (.sl 0, p) else some (.far, p)
  | some (_, p) => some (.far, p)
def tOld (t : Nat) (T T' : TM) : TM := fun a => match T' a with
  | none => none
  | some (.far, _) => T a
  | some (.sl _, _) => none
  | some (.tm j, p) => if j = 0 then some (.tm t, p) else none
section
variable {X : Cx} {cx : Nat → Addr} {W : WX} {k : Nat} {f : Addr} {fd : FuncData} {ps : List Str} {cm : List O → CR} {x : Str} {p pos : Pos} {e : Expr} {m : EM Rs}
theorem a_one (ha : PE X e (tE X.K cx W m)) (hs : starEach [e] X.env = (false, eval e X.env) :: starEach [] X.env := by rfl) : PA X [e] (tA X.K cx W (ev1 m)) := PAimp (pa_cons ha (pa_nil) hs) fun σ H Q h => by
  obtain ⟨T, env, t, I, L, h⟩ := h
  exact ⟨T, env, t, I, L, h.bd fun r1 e1 T1 H1 F1 I1 L1 h1 v hv => h1.use F1 I1 L1 [v] ⟨v, [], rfl, hv, rfl⟩⟩
theorem callT_go {σ : L2.St} {H : Hp} {Q : VK} (h : tE X.K cx W (callT cm m) σ H Q) : tCallS (spM X.K cx [true] cm) (WE W) (tA X.K cx W (ev1 m)) σ H Q := by
  obtain ⟨T, env, t, I, L, h⟩ := h
  refine ⟨T, env, t, I, L, ?_⟩
  unfold Wk callT bd at h
  unfold Wk ev1 bd
  cases ee : m env with
  | stuck => rw [ee] at h; exact h.elim
  | ex c e' => rw [ee] at h; exact h
  | ok r e1 =>
    rw [ee] at h
    dsimp only [ret] at h ⊢
    intro T1 H1 F1 I1 L1 vs hvs
    obtain ⟨v, ws, rfl, hv, rfl⟩ := hvs
    cases r with
    | nm i => exact h.elim
    | v o =>
      dsimp only at h
      have farK : ∀ {T' : TM} {H' : Hp}, Fr (tNew t T1) T' H1 H' → ∀ b u, H1 b = some u → (∃ q, tNew t T1 b = some (.far, q)) → H' b = some u ∧ tOld t T1 T' b = T1 b := fun F b u e ⟨q, z⟩ => by
        obtain ⟨e1, t1⟩ := F.keep b u e (.inr (.inl ⟨q, z⟩))
        refine ⟨e1, ?_⟩
        unfold tOld
        rw [t1, z]
      have nn : ∀ {b : Addr}, T1 b = none → tNew t T1 b = none := fun z => by unfold tNew; rw [z]
      have noneK : ∀ {T' : TM} {H' : Hp}, Fr (tNew t T1) T' H1 H' → ∀ b u, H1 b = some u → T1 b = none → H' b = some u ∧ tOld t T1 T' b = none := fun F b u e z => by
        obtain ⟨e1, t1⟩ := F.keep b u e (.inl (nn z))
        refine ⟨e1, ?_⟩
        unfold tOld
        rw [t1, nn z]
      have ei : ∀ {T' : TM} {H' : Hp}, Fr (tNew t T1) T' H1 H' → EI X.K (tOld t T1 T') H' e1 σ := fun {T' H'} F => ⟨I1.len, fun i u hu => by
        obtain ⟨w, hs, rw'⟩ := I1.at_ i u hu
        refine ⟨w, hs, RepO_map (fun b o t0 e => ⟨(noneK F b o e t0).2, (noneK F b o e t0).1⟩) (fun b o p t0 e => ?_) u [] w rw'⟩
        obtain ⟨e1, t1⟩ := farK F b o e ⟨p, by unfold tNew; rw [t0]⟩
        exact ⟨t1.trans t0, e1⟩⟩
      have fr : ∀ {T' : TM} {H' : Hp}, Fr (tNew t T1) T' H1 H' → Fr T (tOld t T1 T') H H' := fun {T' H'} F => ⟨fun b u e kp => by
        obtain ⟨e1, t1⟩ := F1.keep b u e kp
        rcases kp with z | ⟨q, z⟩ | ⟨i, q, z⟩
        · obtain ⟨a, c⟩ := noneK F b u e1 (t1.trans z)
          exact ⟨a, c.trans z.symm⟩
        · obtain ⟨a, c⟩ := farK F b u e1 ⟨q, by unfold tNew; rw [t1, z]⟩
          exact ⟨a, c.trans t1⟩
        · have hi := L b i q z
          obtain ⟨a, c⟩ := farK F b u e1 ⟨q, by unfold tNew; rw [t1, z]; simp; omega⟩
          exact ⟨a, c.trans t1⟩, fun b q z => by
        unfold tOld at z
        split at z
        · cases z
        · exact F1.far b q z
        · cases z
        · split at z <;> cases z⟩
      have lt : ∀ {T' : TM}, Lt (t + 1) (tOld t T1 T') := fun {T'} b i q z => by
        unfold tOld at z
        split at z
        · cases z
        · exact L1 b i q z
        · cases z
        · split at z
          · cases z; omega
          · cases z
      refine ⟨tNew t T1, [o], rfl, rfl, fun j o' ho => ?_, fun b i q z => ?_, ?_⟩
      · cases j with
        | zero =>
          simp only [List.getElem?_cons_zero, Option.some.injEq] at ho
          subst ho
          refine ⟨v, rfl, RepO_map (fun b u t0 e => ⟨nn t0, e⟩) (fun b u p t0 e => ⟨by unfold tNew; rw [t0]; simp, e⟩) o [] v hv⟩
        | succ j => simp at ho
      · unfold tNew at z
        split at z
        · cases z
        · split at z <;> cases z
        · cases z
      · cases r : cm [o] with
        | stuck => rw [r] at h; exact h.elim
        | ok o' outs =>
          rw [r] at h
          dsimp only at h ⊢
          intro w T' H' F' L' ro out
          refine h _ H' (fr F') (ei F') lt w (RepO_map (fun b u t0 e => ⟨by unfold tOld; rw [t0], e⟩) (fun b u p t0 e => ⟨by unfold tOld; rw [t0]; simp, e⟩) o' [] w ro)
        | ex c outs =>
          rw [r] at h
          dsimp only at h ⊢
          intro T' H' F' L' out
          exact h _ H' (fr F') (ei F') lt
theorem m_callT (F : FF X.prog X.w X.K X.mg X.base cx k x f fd ps [true] cm) (hr : Room k X.A) (tk : Takes X W) (ha : PE X e (tE X.K cx W m)) (hg : Gl X x := by rfl) (hdb : (x == ("__debug__" : Str)) = false := by decide)
    (he : starEach [e] X.env = (false, eval e X.env) :: starEach [] X.env := by rfl) (hpl : (PySem.backTo pos (starEach [] X.env)).any (·.1) = false := by rfl) : PE X (.Call (.Name x p) [e] [] pos) (tE X.K cx W (callT cm m)) :=
  PEimp (pe_callS F.ok hr hg F.gl F.kp F.bn (fun σ => passAt tk σ) (a_one ha he) hdb he hpl) fun _ _ _ h => callT_go h
end

/-! ### list(text) -/
def fListA : List O → Option O
  | [.s (.str x)] => some (.l ((x.map fun c => D.str [c]).map .s))
  | as => fList as
def rListS : List V → Hp → VK → Prop := fun xs H Q => ∃ z : List Nat, xs = [strV z] ∧ z.length ≤ sizeLine ∧ ∀ l, H l = none → Q (.ref l) (upd H l (.lst (z.map fun c => strV [c])))
theorem vals_signs : ∀ {z : List Nat} {us : List Value}, us.length = z.length → (∀ (j : Nat) (v : Value), us[j]? = some v → ∃ (c : Nat) (u : Tok), z[j]? = some c ∧ v = Value.str ⟨#[c]⟩ u) → Vals (z.map fun c => strV [c]) us
  | [], [], _, _ => .nil
  | [], _ :: _, h, _ => by simp at h
  | _ :: _, [], h, _ => by simp at h
  | c :: z, u :: us, h, q => by
    obtain ⟨c', t, e1, e2⟩ := q 0 u rfl
    simp only [List.getElem?_cons_zero, Option.some.injEq] at e1
    subst e1 e2
    exact .cons ⟨t, rfl⟩ (vals_signs (by simpa using h) fun j v hv => by simpa using q (j + 1) v (by simpa using hv))
theorem call_listS {X : Cx} (hc : X.calm = true) : CallR X (.type "list") rListS := by
  intro pins s σ H xs us Q I r h
  obtain ⟨z, rfl, hz, q⟩ := h
  obtain ⟨u, rfl, t, rfl⟩ := vals1 r
  refine call_list_str (I.ok.hd hc) ⟨z.toArray⟩ t (fun h' tk acc c hk e hi => ?_) (by show z.toArray.size ≤ _; simpa using hz)
  refine ⟨.ref s.heap.objs.size, _, I.laid (o := .lst (z.map fun c => strV [c])) hk (Nat.le_refl _) ?_, rfl, q _ (I.hok.fresh (Nat.le_refl _))⟩
  obtain ⟨h1, h2⟩ := hi
  refine ⟨by simpa using hz, acc.toList, c, vals_signs (by simpa using h1) fun j v hv => ?_, by simpa using e⟩
  obtain ⟨d, u, hd, rfl⟩ := h2 j v (by simpa using hv)
  exact ⟨d, u, by simpa using hd, rfl⟩
theorem call_listA {X : Cx} (hc : X.calm = true) : CallR X (.type "list") (fun xs H Q => rListS xs H Q ∨ ∃ p ys, xs = [.ref p] ∧ (SqL X.K H p ys ∨ SqT X.K H p ys) ∧ ∀ l, H l = none → Q (.ref l) (upd H l (.lst ys))) := by
  intro pins s σ H xs us Q I r h
  rcases h with h | h
  · exact call_listS hc pins s σ H xs us Q I r h
  · exact call_list_of pins s σ H xs us Q I r h
theorem ok_listA {K : PySem.W.Frag} : OpOkN K fListA (fun xs H Q => rListS xs H Q ∨ ∃ p ys, xs = [.ref p] ∧ (SqL K H p ys ∨ SqT K H p ys) ∧ ∀ l, H l = none → Q (.ref l) (upd H l (.lst ys))) := fun T H t as o vs Q L ha e k => by
  unfold fListA at e
  split at e
  · rename_i x
    cases e
    obtain ⟨v, rfl, h⟩ := reps1 ha
    obtain ⟨rfl, s1⟩ := is_str h
    refine .inl ⟨x, rfl, by rw [sizeLine_eq]; exact s1.1, fun l hl => ?_⟩
    have rr : ∀ z : List Nat, (∀ c ∈ z, c < 1114112) → RepDs K (S T H) (z.map fun c => D.str [c]) (z.map fun c => strV [c]) := fun z => by
      induction z with
      | nil => intro _; simp [RepDs]
      | cons c z ih =>
        intro hz
        simp only [List.map_cons, RepDs]
        exact ⟨_, _, rfl, by simp only [RepD]; exact ⟨trivial, by simp, fun d hd => by simp only [List.mem_singleton] at hd; subst hd; exact hz _ (by simp)⟩, ih fun d hd => hz d (List.mem_cons_of_mem _ hd)⟩
    obtain ⟨g, l', w⟩ := out_lst (t := t) hl L (rr x s1.2)
    exact k _ _ _ g l' w
  · exact .inr (ok_list T H t as o vs Q L ha e k)

/-! ### a op b op c -/
def op3 (f g : O → O → Option Bool) (a b c : EM Rs) : EM Rs := bd a fun r1 => bd b fun r2 => fun e => match look e (opnd r1), look e (opnd r2) with
  | some o1, some o2 => match f o1 o2 with
    | some true => (bd c fun r3 => fun e => match look e (opnd r2), look e r3 with
      | some o2, some o3 => match g o2 o3 with
        | some k => .ok (.v (.s (.bl k))) e
        | none => .stuck
      | _, _ => .stuck) e
    | some false => .ok (.v (.s (.bl false))) e
    | none => .stuck
  | _, _ => .stuck
section
variable {X : Cx} {cx : Nat → Addr} {W : WX} {a b c : Expr} {ma mb mc : EM Rs} {pos : Pos} {op op' : CmpOp} {f g : O → O → Option Bool} {r r' : R2}
theorem op3_go (hf : OpOk X.K (bB f) r) (hg : OpOk X.K (bB g) r') {σ : L2.St} {H : Hp} {Q : VK} (h : tE X.K cx W (op3 f g ma mb mc) σ H Q) : tChain r r' (tE X.K cx W ma) (tE X.K cx W mb) (tE X.K cx W mc) σ H Q := by
  obtain ⟨T, env, t, I, L, h⟩ := h
  refine ⟨T, env, t, I, L, h.bd fun r1 e1 T1 H1 F1 I1 L1 h1 v hv => ?_⟩
  obtain ⟨F1', I1', L1', hv'⟩ := settle L F1 I1 L1 hv
  refine ⟨_, e1, t, I1', L1', (h1.step F1').bd fun r2 e2 T2 H2 F2 I2 L2 h2 w hw => ?_⟩
  obtain ⟨F2', I2', L2', hw'⟩ := settle L1' F2 I2 L2 hw
  have hv2 := held (t' := t) hv' F2'
  try dsimp only at h2
  split at h2
  · rename_i o1 o2 q1 q2
    split at h2
    · rename_i q3
      refine hf _ H2 t o1 o2 _ v w _ (L2'.mono (Nat.le_succ _)) (look_rep I2' hv2 q1) (look_rep I2' hw' q2) (by unfold bB; rw [q3]) fun u T3 H3 G L3 ho => ?_
      obtain ⟨F3', I3', L3'⟩ := clean L2' G.fr (G.ei I2') L3
      have hw3 := held (t' := t) hw' F3'
      have hu : u = .bl true := by simpa only [RepO, RepD] using ho
      refine ⟨true, hu, ?_⟩
      rw [if_pos rfl]
      refine ⟨_, e2, t, I3', L3', Wk.bd (m := mc) ((h2.step F2').step F3') fun r3 e4 T4 H4 F4 I4 L4 h4 z hz => ?_⟩
      have hw4 := held (t' := t) hw3 F4
      try dsimp only at h4
      split at h4
      · rename_i o2' o3 q5 q6
        split at h4
        · rename_i k q7
          refine hg T4 H4 t o2' o3 _ w z Q L4 (look_rep I4 hw4 q5) (look_rep I4 hz q6) (by unfold bB; rw [q7]) fun u T' H' G L' ho => ?_
          exact h4 T' H' (F4.trans G.fr) (G.ei I4) L' u ho
        · exact h4.elim
      · exact h4.elim
    · rename_i q3
      refine hf _ H2 t o1 o2 _ v w _ (L2'.mono (Nat.le_succ _)) (look_rep I2' hv2 q1) (look_rep I2' hw' q2) (by unfold bB; rw [q3]) fun u T3 H3 G L3 ho => ?_
      have hu : u = .bl false := by simpa only [RepO, RepD] using ho
      refine ⟨false, hu, ?_⟩
      rw [if_neg Bool.false_ne_true]
      exact (h2.step F2').use G.fr (G.ei I2') L3 _ (by simp only [RsRep, RepO, RepD])
    · exact h2.elim
  · exact h2.elim
theorem m_chain (hf : OpOk X.K (bB f) r) (hg : OpOk X.K (bB g) r') (ho : OpR X (compareOp op) r) (ho' : OpR X (compareOp op') r') (ha : PE X a (tE X.K cx W ma)) (hb : PE X b (tE X.K cx W mb)) (hc : PE X c (tE X.K cx W mc))
    (hm : lastMarks [op, op'] [b, c] = false := by with_unfolding_all rfl) : PE X (.Compare a [op, op'] [b, c] pos) (tE X.K cx W (op3 f g ma mb mc)) := PEimp (pe_chain ho ho' ha hb hc hm) fun _ _ _ h => op3_go hf hg h
end
end MI
/-! MiComp2: comprehensions of two clauses. -/
namespace MI
open PySem L2

def lc2Loop (tg : Tgt) (cond : EM Bool) (it1 : EM (List D)) (tg1 : Tgt) (cond1 : EM Bool) (elt : EM Rs) (own vs1 : List Nat) : List D → EM (List D)
  | [] => ret []
  | d :: ds => fun e => match tg d e with
    | some e1 => (bd cond fun b => if b then (bd it1 fun es => fun e2 => (bd (lcLoop tg1 cond1 elt vs1 es) fun ys => fun e3 => (bd (lc2Loop tg cond it1 tg1 cond1 elt own vs1 ds) fun xs => ret (ys ++ xs)) (wipeE e3 own)) (wipeE e2 vs1))
      else fun e2 => lc2Loop tg cond it1 tg1 cond1 elt own vs1 ds (wipeE e2 own)) e1
    | none => .stuck
def eLc2 (it : EM (List D)) (tg : Tgt) (cond : EM Bool) (it1 : EM (List D)) (tg1 : Tgt) (cond1 : EM Bool) (elt : EM Rs) (own vs1 : List Nat) : EM Rs := bd it fun ds => fun e => match lc2Loop tg cond it1 tg1 cond1 elt own vs1 ds (wipeE e own) with
  | .ok xs e' => if xs.length ≤ 16777216 then .ok (.v (.l (xs.map .s))) (restE e own e') else .stuck
  | _ => .stuck
section
variable {X : Cx} {cx : Nat → Addr} {W : WX} {mi mi1 : EM (List D)} {g g1 : Tgt} {mc mc1 : EM Bool} {me : EM Rs} {own vs1 : List Nat}
theorem wipe_sub {σ : L2.St} {vs vs1 : List Nat} (h : ∀ i ∈ vs1, i ∈ vs) : wipe (wipe σ vs1) vs = wipe σ vs := by
  apply List.ext_getElem?
  intro i
  rw [wipe_get, wipe_get, wipe_get, wipe_length]
  by_cases c : i ∈ vs ∧ i < σ.length
  · rw [if_pos c, if_pos c]
  · rw [if_neg c, if_neg c]
    by_cases c1 : i ∈ vs1 ∧ i < σ.length
    · exact absurd ⟨h i c1.1, c1.2⟩ c
    · rw [if_neg c1]
theorem lc2_go (hv : ∀ i ∈ vs1, i ∈ own) {σ : L2.St} {H : Hp} {Q : VK} (h : tE X.K cx W (eLc2 mi g mc mi1 g1 mc1 me own vs1) σ H Q) :
    tLc2 (tI X.K cx W mi) (tG X.K (ownP own) g) (tT X.K cx W0 mc) (tI X.K cx W0 mi1) (tG X.K (ownP vs1) g1) (tT X.K cx W0 mc1) (tE X.K cx W0 me) own vs1 σ H Q := by
  obtain ⟨T, env, t, I, L, h⟩ := h
  refine ⟨T, env, t, I, L, h.bd fun ds e1 T1 H1 F1 I1 L1 h1 J hJ p hp => ?_⟩
  obtain ⟨F1', I1', L1'⟩ := clean L F1 I1 L1
  try dsimp only at h1
  cases qL : lc2Loop g mc mi1 g1 mc1 me own vs1 ds (wipeE e1 own) with
  | stuck => rw [qL] at h1; exact h1.elim
  | ex c e' => rw [qL] at h1; exact h1.elim
  | ok xs eE =>
    rw [qL] at h1
    dsimp only at h1
    by_cases hx : xs.length ≤ 16777216
    · rw [if_pos hx] at h1
      have G0 : Gr (untag (isTm t) T1) (put (untag (isTm t) T1) p (some (.tm t, []))) H1 (upd H1 p (.lst [])) := Gr.new hp (by simp)
      refine ⟨fun i m H' => m = ds.length - i ∧ i ≤ ds.length ∧ ∃ T' env' acc accV out, Fr T T' H H' ∧ Sg T1 T' H1 H' ∧ EI X.K T' H' env' (wipe σ own) ∧ Lt (t + 1) T' ∧ T' p = some (.tm t, []) ∧ H' p = some (.lst accV) ∧ RepDs X.K (S T' H') acc accV ∧ lc2Loop g mc mi1 g1 mc1 me own vs1 (ds.drop i) env' = .ok out eE ∧ acc ++ out = xs,
        ⟨ds.length, rfl, Nat.zero_le _, _, wipeE e1 own, [], [], xs, F1'.trans G0.fr, Sg.untag.trans G0.fr.sg, G0.ei (ei_wipe I1'), (L1'.mono (Nat.le_succ t)).put (by simp), put_same, upd_same, by simp [RepDs], qL, rfl⟩, fun i m H' hW => ?_⟩
      obtain ⟨rfl, hi, T', env', acc, accV, out, F', S', I', L', tp, hP, ra, qo, ea⟩ := hW
      obtain ⟨js, jg⟩ := hJ T' H' S' i
      by_cases hlt : i < ds.length
      · obtain ⟨go, y⟩ := jg ds[i] (List.getElem?_eq_getElem hlt)
        refine .inr ⟨go, fun H' => ∃ T' env' acc accV out, Fr T T' H H' ∧ Sg T1 T' H1 H' ∧ EI X.K T' H' env' (wipe σ own) ∧ Lt (t + 1) T' ∧ T' p = some (.tm t, []) ∧ H' p = some (.lst accV) ∧ RepDs X.K (S T' H') acc accV ∧ lc2Loop g mc mi1 g1 mc1 me own vs1 (ds.drop (i + 1)) env' = .ok out eE ∧ acc ++ out = xs,
          fun H' hN => ⟨ds.length - (i + 1), by omega, rfl, hlt, hN⟩, fun x H2 hy => ?_⟩
        obtain ⟨T2, G2, l2, rd⟩ := y x H2 hy
        rw [List.drop_eq_getElem_cons hlt] at qo
        simp only [lc2Loop] at qo
        split at qo
        · rename_i e2 q2
          refine ⟨T2, env', ds[i], e2, G2.ei I', rd, q2, fun σ2 I2 l2' P2 => ⟨wipe_back P2 (l2'.trans (wipe_length _ _)), T2, e2, t + 1, I2, l2 _ L', ?_⟩⟩
          have tp2 : T2 p = some (.tm t, []) := (G2.keep p _ hP).2.trans tp
          have hP2 : H2 p = some (.lst accV) := (G2.keep p _ hP).1
          have ra2 : RepDs X.K (S T2 H2) acc accV := G2.fr.ds ra
          have wb : wipe σ2 own = wipe σ own := wipe_back P2 (l2'.trans (wipe_length _ _))
          unfold bd at qo
          cases q3 : mc e2 with
          | stuck => rw [q3] at qo; cases qo
          | ex c e' => rw [q3] at qo; cases qo
          | ok b e3 =>
            rw [q3] at qo
            dsimp only at qo
            intro T3 H3 F3 I3 L3
            obtain ⟨F3', I3', L3'⟩ := clean (l2 _ L') F3 I3 L3
            have k3 := F3'.keep p _ hP2 (by rw [tp2]; exact .inr (.inr ⟨_, _, rfl⟩))
            have tp3 : untag (isTm (t + 1)) T3 p = some (.tm t, []) := k3.2.trans tp2
            have FF3 : Fr T (untag (isTm (t + 1)) T3) H H3 := (F'.trans G2.fr).trans F3'
            have SS3 : Sg T1 (untag (isTm (t + 1)) T3) H1 H3 := (S'.trans G2.fr.sg).trans F3'.sg
            cases b with
            | false =>
              rw [if_neg Bool.false_ne_true] at qo
              have I4 := ei_wipe (vs := own) I3'
              rw [wb] at I4
              exact ⟨_, _, acc, accV, out, FF3, SS3, I4, L3', tp3, k3.1, F3'.ds ra2, qo, ea⟩
            | true =>
              rw [if_pos rfl] at qo
              refine ⟨_, e3, t + 1, I3', L3', ?_⟩
              cases q4 : mi1 e3 with
              | stuck => rw [q4] at qo; cases qo
              | ex c e' => rw [q4] at qo; cases qo
              | ok es e4 =>
                rw [q4] at qo
                dsimp only at qo
                cases q5 : lcLoop g1 mc1 me vs1 es (wipeE e4 vs1) with
                | stuck => rw [q5] at qo; cases qo
                | ex c e' => rw [q5] at qo; cases qo
                | ok ys e5 =>
                  rw [q5] at qo
                  dsimp only at qo
                  cases q6 : lc2Loop g mc mi1 g1 mc1 me own vs1 (ds.drop (i + 1)) (wipeE e5 own) with
                  | stuck => rw [q6] at qo; cases qo
                  | ex c e' => rw [q6] at qo; cases qo
                  | ok xs2 e6 =>
                    rw [q6] at qo
                    simp only [ret, MI.R.ok.injEq] at qo
                    obtain ⟨rfl, rfl⟩ := qo
                    intro T4 H4 F4 I4 L4 J1 hJ1
                    obtain ⟨F4', I4', L4'⟩ := clean L3' F4 I4 L4
                    have k4 := F4'.keep p _ k3.1 (by rw [tp3]; exact .inr (.inr ⟨_, _, rfl⟩))
                    refine ⟨fun j k H' => k = es.length - j ∧ j ≤ es.length ∧ ∃ T' env' acc accV out, Fr T T' H H' ∧ Sg T1 T' H1 H' ∧ Sg T4 T' H4 H' ∧ EI X.K T' H' env' (wipe σ2 vs1) ∧ Lt (t + 1) T' ∧ T' p = some (.tm t, []) ∧ H' p = some (.lst accV) ∧ RepDs X.K (S T' H') acc accV ∧ lcLoop g1 mc1 me vs1 (es.drop j) env' = .ok out e5 ∧ acc ++ (out ++ xs2) = xs,
                      ⟨es.length, rfl, Nat.zero_le _, _, wipeE e4 vs1, acc, accV, ys, FF3.trans F4', SS3.trans F4'.sg, Sg.untag, ei_wipe I4', L4', k4.2.trans tp3, k4.1, F4'.ds (F3'.ds ra2), q5, ea⟩, fun j k H' hW => ?_⟩
                    obtain ⟨rfl, hj, T', env', acc, accV, out, F', S', S4, I', L', tp, hP, ra, qo, ea⟩ := hW
                    obtain ⟨js1, jg1⟩ := hJ1 T' H' S4 j
                    by_cases hlt1 : j < es.length
                    · obtain ⟨go1, y1⟩ := jg1 es[j] (List.getElem?_eq_getElem hlt1)
                      refine .inr ⟨go1, fun H' => ∃ T' env' acc accV out, Fr T T' H H' ∧ Sg T1 T' H1 H' ∧ Sg T4 T' H4 H' ∧ EI X.K T' H' env' (wipe σ2 vs1) ∧ Lt (t + 1) T' ∧ T' p = some (.tm t, []) ∧ H' p = some (.lst accV) ∧ RepDs X.K (S T' H') acc accV ∧ lcLoop g1 mc1 me vs1 (es.drop (j + 1)) env' = .ok out e5 ∧ acc ++ (out ++ xs2) = xs,
                        fun H' hN => ⟨es.length - (j + 1), by omega, rfl, hlt1, hN⟩, fun x H2 hy => ?_⟩
                      obtain ⟨T2, G2, l2, rd⟩ := y1 x H2 hy
                      rw [List.drop_eq_getElem_cons hlt1] at qo
                      simp only [lcLoop] at qo
                      split at qo
                      · rename_i e2 q2
                        refine ⟨T2, env', es[j], e2, G2.ei I', rd, q2, fun σ3 I2 l3' P3 => ⟨wipe_back P3 (l3'.trans (wipe_length _ _)), T2, e2, t + 1, I2, l2 _ L', ?_⟩⟩
                        have tp2 : T2 p = some (.tm t, []) := (G2.keep p _ hP).2.trans tp
                        have hP2 : H2 p = some (.lst accV) := (G2.keep p _ hP).1
                        have ra2 : RepDs X.K (S T2 H2) acc accV := G2.fr.ds ra
                        have wb : wipe σ3 vs1 = wipe σ2 vs1 := wipe_back P3 (l3'.trans (wipe_length _ _))
                        unfold bd at qo
                        cases q3 : mc1 e2 with
                        | stuck => rw [q3] at qo; cases qo
                        | ex c e' => rw [q3] at qo; cases qo
                        | ok b e3 =>
                          rw [q3] at qo
                          dsimp only at qo
                          intro T3 H3 F3 I3 L3
                          obtain ⟨F3', I3', L3'⟩ := clean (l2 _ L') F3 I3 L3
                          have k3 := F3'.keep p _ hP2 (by rw [tp2]; exact .inr (.inr ⟨_, _, rfl⟩))
                          have tp3 : untag (isTm (t + 1)) T3 p = some (.tm t, []) := k3.2.trans tp2
                          have FF3 : Fr T (untag (isTm (t + 1)) T3) H H3 := (F'.trans G2.fr).trans F3'
                          have SS3 : Sg T1 (untag (isTm (t + 1)) T3) H1 H3 := (S'.trans G2.fr.sg).trans F3'.sg
                          have SS4 : Sg T4 (untag (isTm (t + 1)) T3) H4 H3 := (S4.trans G2.fr.sg).trans F3'.sg
                          cases b with
                          | false =>
                            rw [if_neg Bool.false_ne_true] at qo
                            have I4 := ei_wipe (vs := vs1) I3'
                            rw [wb] at I4
                            exact ⟨_, _, acc, accV, out, FF3, SS3, SS4, I4, L3', tp3, k3.1, F3'.ds ra2, qo, ea⟩
                          | true =>
                            rw [if_pos rfl] at qo
                            refine ⟨_, e3, t + 1, I3', L3', ?_⟩
                            cases q4 : me e3 with
                            | stuck => rw [q4] at qo; cases qo
                            | ex c e' => rw [q4] at qo; cases qo
                            | ok r e4 =>
                              rw [q4] at qo
                              dsimp only at qo
                              intro T4 H4 F4 I4 L4 v hv
                              cases q5 : gv r e4 with
                              | stuck => rw [q5] at qo; cases qo
                              | ex c e' => exact absurd q5 gv_noex
                              | ok x1 e5' =>
                                rw [q5] at qo
                                dsimp only at qo
                                obtain ⟨z, F5, I5, L5, rd5⟩ := gv_ok L3' F4 I4 L4 hv q5
                                obtain ⟨F6, I6, L6⟩ := clean L3' F5 I5 L5
                                have k6 := F6.keep p _ k3.1 (by rw [tp3]; exact .inr (.inr ⟨_, _, rfl⟩))
                                have tp6 := k6.2.trans tp3
                                have ra6 := F6.ds (F3'.ds ra2)
                                have rd6 : RepD X.K (S (untag (isTm (t + 1)) (untag z T4)) H4) x1 v := d_untag rd5
                                cases q6' : lcLoop g1 mc1 me vs1 (es.drop (j + 1)) (wipeE e5' vs1) with
                                | stuck => rw [q6'] at qo; cases qo
                                | ex c e' => rw [q6'] at qo; cases qo
                                | ok xs3 e6 =>
                                  rw [q6'] at qo
                                  simp only [ret, MI.R.ok.injEq] at qo
                                  obtain ⟨rfl, rfl⟩ := qo
                                  have la := RepDs_len ra6
                                  have lx : acc.length + (xs3.length + 1 + xs2.length) = xs.length := by rw [← ea]; simp only [List.length_append, List.length_cons]
                                  refine ⟨accV, k6.1, by rw [sizeLine_eq]; omega, _, wipeE e5' vs1, acc ++ [x1], accV ++ [v], xs3, fr_updT F1 hp (FF3.trans F6), sg_updT hp (SS3.trans F6.sg), ?_, ei_updT tp6 ?_, L6, tp6, upd_same, ds_updT tp6 (RepDs_app ra6 ?_), q6', ?_⟩
                                  · have := SS4.trans F6.sg
                                    exact fun b u h => by
                                      obtain ⟨h1, h2⟩ := S_some.mp (this b u h)
                                      exact S_some.mpr ⟨h1, by rw [upd_ne (fun z => by rw [z, tp6] at h1; cases h1)]; exact h2⟩
                                  · have I7 := ei_wipe (vs := vs1) I6
                                    rw [wb] at I7
                                    exact I7
                                  · simp only [RepDs]
                                    exact ⟨v, [], rfl, rd6, rfl⟩
                                  · rw [← ea]; simp
                      · cases qo
                    · have e : j = es.length := by omega
                      subst e
                      rw [List.drop_length] at qo
                      simp only [lcLoop, ret, MI.R.ok.injEq] at qo
                      obtain ⟨rfl, rfl⟩ := qo
                      have I7 := ei_wipe (vs := own) I'
                      rw [wipe_sub hv, wb] at I7
                      exact .inl ⟨js1 (Nat.le_refl _), _, _, acc, accV, xs2, F', S', I7, L', tp, hP, ra, q6, by rw [← ea]; simp⟩
        · cases qo
      · have e : i = ds.length := by omega
        subst e
        rw [List.drop_length] at qo
        simp only [lc2Loop, ret, MI.R.ok.injEq] at qo
        obtain ⟨rfl, rfl⟩ := qo
        rw [List.append_nil] at ea
        subst ea
        refine .inl ⟨js (Nat.le_refl _), h1 T' H' F' (ei_rest I1 S' (ei_unwipe I')) L' (.ref p) ?_⟩
        simp only [RsRep, RepO]
        exact ⟨p, accV, rfl, tp, hP, RepDs_os ra⟩
    · rw [if_neg hx] at h1; exact h1.elim
variable {prot : Nat → Bool} {elt tg iter tg1 iter1 : Expr} {ifs ifs1 : List Expr} {scope : Scope} {own' : List (Str × Nat)} {pos spos : Pos}
theorem m_lc2 (hN : X.N.Nodup) (hi : PI X tg iter (tI X.K cx W mi)) (ok : blkC X.N X.env.scope scope own' = true)
    (hg : ∀ (s : Shared) (H : Hp) (C : Addr) (cl : List (Str × Addr)) (fp : List Addr), PG (X.blk s H scope (compEnvC scope cl C X.env) fp) tg (tG X.K (ownP (own'.map (·.2))) g)) (ht : ∀ (s : Shared) (H : Hp) (C : Addr) (cl : List (Str × Addr)) (fp : List Addr), PTs (X.blk s H scope (compEnvC scope cl C X.env) fp) ifs (tT X.K cx W0 mc))
    (hi1 : ∀ (s : Shared) (H : Hp) (C : Addr) (cl : List (Str × Addr)) (fp : List Addr), PI (X.blk s H scope (compEnvC scope cl C X.env) fp) tg1 iter1 (tI X.K cx W0 mi1))
    (hg1 : ∀ (s : Shared) (H : Hp) (C : Addr) (cl : List (Str × Addr)) (fp : List Addr), PG (X.blk s H scope (compEnvC scope cl C X.env) fp) tg1 (tG X.K (ownP vs1) g1)) (ht1 : ∀ (s : Shared) (H : Hp) (C : Addr) (cl : List (Str × Addr)) (fp : List Addr), PTs (X.blk s H scope (compEnvC scope cl C X.env) fp) ifs1 (tT X.K cx W0 mc1))
    (he : ∀ (s : Shared) (H : Hp) (C : Addr) (cl : List (Str × Addr)) (fp : List Addr), PE (X.blk s H scope (compEnvC scope cl C X.env) fp) elt (tE X.K cx W0 me)) (hv : ∀ i ∈ vs1, i ∈ own'.map (·.2) := by decide) (hc : X.calm = true := by rfl) (hs : ∀ x, foldedSetIterable iter X.env x = pure x := by intro _; rfl) (hs1 : ∀ env x, foldedSetIterable iter1 env x = pure x := by intro _ _; rfl) :
    PE X (.ListComp elt [⟨tg, iter, ifs, 0⟩, ⟨tg1, iter1, ifs1, 0⟩] scope pos) (tE X.K cx W (eLc2 mi g mc mi1 g1 mc1 me (own'.map (·.2)) vs1)) := PEimp (pe_lc2 hc hN hi (blkOk_by ok) hv hg ht hi1 hg1 ht1 he hs hs1) fun _ _ _ h => lc2_go hv h
theorem s_asgLc2 {i : Nat} {y : Str} {py : Pos} (hN : X.N.Nodup) (hi : PI X tg iter (tI X.K cx W mi)) (ok : blkC X.N X.env.scope scope own' = true)
    (hg : ∀ (s : Shared) (H : Hp) (C : Addr) (cl : List (Str × Addr)) (fp : List Addr), PG (X.blk s H scope (compEnvC scope cl C X.env) fp) tg (tG X.K (ownP (own'.map (·.2))) g)) (ht : ∀ (s : Shared) (H : Hp) (C : Addr) (cl : List (Str × Addr)) (fp : List Addr), PTs (X.blk s H scope (compEnvC scope cl C X.env) fp) ifs (tT X.K cx W0 mc))
    (hi1 : ∀ (s : Shared) (H : Hp) (C : Addr) (cl : List (Str × Addr)) (fp : List Addr), PI (X.blk s H scope (compEnvC scope cl C X.env) fp) tg1 iter1 (tI X.K cx W0 mi1))
    (hg1 : ∀ (s : Shared) (H : Hp) (C : Addr) (cl : List (Str × Addr)) (fp : List Addr), PG (X.blk s H scope (compEnvC scope cl C X.env) fp) tg1 (tG X.K (ownP vs1) g1)) (ht1 : ∀ (s : Shared) (H : Hp) (C : Addr) (cl : List (Str × Addr)) (fp : List Addr), PTs (X.blk s H scope (compEnvC scope cl C X.env) fp) ifs1 (tT X.K cx W0 mc1))
    (he : ∀ (s : Shared) (H : Hp) (C : Addr) (cl : List (Str × Addr)) (fp : List Addr), PE (X.blk s H scope (compEnvC scope cl C X.env) fp) elt (tE X.K cx W0 me))
    (hsw : swapsWith (.ListComp elt [⟨tg, iter, ifs, 0⟩, ⟨tg1, iter1, ifs1, 0⟩] scope pos) (some (.Name y py)) spos.line X.env = pure true) (hv : ∀ i ∈ vs1, i ∈ own'.map (·.2) := by decide) (hp : prot i = false := by rfl) (hy : X.N[i]? = some y := by rfl) (hyl : X.env.scope.names.lookup y = some .local := by rfl) (hc : X.calm = true := by rfl) (hs : ∀ x, foldedSetIterable iter X.env x = pure x := by intro _; rfl) (hs1 : ∀ env x, foldedSetIterable iter1 env x = pure x := by intro _ _; rfl) :
    PS X (.Assign [.Name y py] (.ListComp elt [⟨tg, iter, ifs, 0⟩, ⟨tg1, iter1, ifs1, 0⟩] scope pos) spos) (tS X.K cx W prot (sAsg i (eLc2 mi g mc mi1 g1 mc1 me (own'.map (·.2)) vs1))) := PSimp (ps_setLc2 hc hN hy hyl hsw hi (blkOk_by ok) hv hg ht hi1 hg1 ht1 he hs hs1) fun D σ H h => by
  obtain ⟨T, env, I, L, h⟩ := h
  refine lc2_go (cx := cx) (W := W) hv ⟨T, env, 0, I, L, h.bd fun r1 e1 T1 H1 F1 I1 L1 h1 v hv => ?_⟩
  unfold bd at h1
  cases q : hold r1 e1 with
  | stuck => rw [q] at h1; exact h1.elim
  | ex c e' => exact absurd q hold_noex
  | ok o e2 =>
    rw [q] at h1
    obtain ⟨z, F2, I2, L2, r2, _⟩ := hold_ok F1 I1 L1 hv q
    exact h1 _ H1 _ (fr_retag (t := 0) (i := i) F2 L) (I2.setO r2) (lt_retag L2) (Pt.set hp)
end
end MI
/-! MiTry: try .. except C as n, isinstance of what was caught, built-in classes as values. -/
namespace MI
open PySem L2

section
variable {X : Cx} {cx : Nat → Addr} {W : WX}
/-- a built-in class by its name -/
theorem m_ty {x : Str} {pos : Pos} (n : String) (hm : X.mg x = none) (hv : bootBuiltins x = some (.type n) := by decide +kernel) (hg : Gl X x := by rfl) (hn : x ≠ "__name__" := by decide) (hd : (x == ("__debug__" : Str)) = false := by decide) : PE X (.Name x pos) (tE X.K cx W (eD (.ty n))) :=
  PEimp (pe_bltn hg hm hv (show RelV (.ty n) (.type n) from rfl) hn hd) fun _ _ _ h => con_go (fun _ => by simp only [RepD]) h
end
/-- what a suite leaves, but for the slot of what was caught -/
def erase (i : Nat) : R Fl → R Fl
  | .ok f e => .ok f (e.set i none)
  | .ex _ _ => .stuck
  | .stuck => .stuck
def sTry (n : Nat) (body : SM) (c i : Nat) (ms : Addr → SM) : SM := fun e => match body e with
  | .ex c' e' => if c' = c then erase i (ms 0 (e'.set i (some (.s (.opq 0))))) else if c' < n then .ex c' e' else .stuck
  | r => r
/-- isinstance(what was caught, T) -/
def eIsE (a : Addr) (i : Nat) (b : Bool) : EM Rs := fun e => match (e[i]?).join with
  | some (.s (.opq a')) => if a' = a then .ok (.v (.s (.bl b))) e else .stuck
  | _ => .stuck
section
variable {X : Cx} {cx : Nat → Addr} {W : WX} {prot : Nat → Bool}
theorem m_isE {a : Addr} {oe : Obj} {pn : List (Addr × Obj)} {c i : Nat} {n t : Str} {ty : String} {b : Bool} {p p1 p2 pos : Pos} (C : ExcC X.K (cx c)) (hz : Zc (.ref (cx c)) none oe) (hf : ∃ vs, oe.data = .fields vs) (hk : PySem.W.kitOne X.K (.ref (cx c)) (.type ty) = some b)
    (hm : X.mg "isinstance" = none) (hmt : X.mg t = none) (hvt : bootBuiltins t = some (.type ty) := by decide +kernel) (hg : Gl (X.suite a ((a, oe) :: pn)) "isinstance" := by rfl) (hgt : Gl (X.suite a ((a, oe) :: pn)) t := by rfl) (hN : X.N[i]? = some n := by rfl)
    (hv : Vis X.env.scope n := by first | exact Or.inl rfl | exact Or.inr (Or.inl rfl) | exact Or.inr (Or.inr rfl)) (hd : (n == ("__debug__" : Str)) = false := by decide) (hcd : (n == ("__classdict__" : Str)) = false := by decide) (hnt : t ≠ "__name__" := by decide) (hdt : (t == ("__debug__" : Str)) = false := by decide)
    (he : starEach [.Name n p1, .Name t p2] X.env = (false, eval (.Name n p1) X.env) :: starEach [.Name t p2] X.env := by rfl) (he2 : starEach [.Name t p2] X.env = (false, eval (.Name t p2) X.env) :: starEach [] X.env := by rfl) (hpl : (PySem.backTo pos (starEach [.Name t p2] X.env)).any (·.1) = false := by rfl) :
    PE (X.suite a ((a, oe) :: pn)) (.Call (.Name "isinstance" p) [.Name n p1, .Name t p2] [] pos) (tE X.K cx W (eIsE a i b)) :=
  PEimp (pe_callB (call_isE C hz hf) hg hm PyProof.Rows.boot_isinstance (pa_cons (pe_var hN hv hd hcd) (pa_cons (pe_bltn hgt hmt hvt (show RelV (.ty ty) (.type ty) from rfl) hnt hdt) pa_nil he2) he) (he := he) (hpl := hpl)) fun σ H Q h => by
  obtain ⟨T, env, t, I, L, h⟩ := h
  unfold eIsE at h
  cases q : (env[i]?).join with
  | none => rw [q] at h; exact h.elim
  | some o =>
    rw [q] at h
    cases o with
    | l os => exact h.elim
    | s d =>
      cases d with
      | opq a' =>
        dsimp only at h
        by_cases ha : a' = a
        · rw [if_pos ha] at h
          subst ha
          obtain ⟨v, e1, r⟩ := I.at_ i _ (by simpa only [Option.join_eq_some_iff] using q)
          simp only [RepO, RepD] at r
          subst r
          exact ⟨_, e1, .ty ty, .type ty, b, rfl, fun u r => r, hk, h T H Fr.refl I (L.mono (Nat.le_succ _)) _ (by simp only [RsRep, RepO, RepD])⟩
        · rw [if_neg ha] at h; exact h.elim
      | _ => exact h.elim
theorem s_try {n : Nat} {mb : SM} {c i : Nat} {ms : Addr → SM} {x nm : Str} {np pos pos' : Pos} {body suite : List Stmt} {b₀ : Stmt} (hs : X.stack = X.env :: X.outer) (hf : X.env.frame = some X.env.locals) (hN : X.N.Nodup) (gl : X.mg x = some (.ref (cx c))) (tk : Takes X W)
    (hx : ∀ c', c' < n ∨ c' = c → PySem.W.exmOne X.K (.ref (cx c')) (.ref (cx c)) = some (decide (c' = c)))
    (hb : ∀ (W' : WX) (pn : List (Addr × Obj)) (xe : Value → Shared → Prop), Takes (X.tr pn xe) W' → PassesOwn (model X.prog X.w) X.A X.env xe → PSs (X.tr pn xe) body (tS X.K cx W' prot mb))
    (hsu : ∀ (a : Addr) (oe : Obj) (pn : List (Addr × Obj)), Zc (.ref (cx c)) none oe → (∃ vs, oe.data = .fields vs) → PSs (X.suite a ((a, oe) :: pn)) (b₀ :: suite) (tS X.K cx W0 prot (ms a)))
    (hpar : ∀ (a : Addr) (e : Env), erase i (ms a (e.set i (some (.s (.opq a))))) = erase i (ms 0 (e.set i (some (.s (.opq 0))))))
    (hp : prot i = false := by rfl) (hi : X.N[i]? = some nm := by rfl) (hln : X.env.kindOf nm = some .local := by rfl) (hg : Gl X x := by rfl) (hdb : (x == ("__debug__" : Str)) = false := by decide) :
    PS X (.Try body [.ExceptHandler (some (.Name x np)) (some nm) (b₀ :: suite) pos'] [] [] pos) (tS X.K cx W prot (sTry n mb c i ms)) :=
  PSimp (ps_try_as (i := i) (c := .ref (cx c)) (Wout := W) (tb := fun W' => tS X.K cx W' prot mb) (ts := fun a cls d D σ H => cls = .ref (cx c) ∧ d = none ∧ tS X.K cx W0 prot (ms a) D σ H) hs hf hN hi hln ⟨hg, hdb, .inl gl⟩ tk hb
    (fun a oe cls d pn hz hv => ⟨fun pins s σ H D I h => by
      obtain ⟨rfl, rfl, h⟩ := h
      exact (hsu a oe pn hz hv).run pins s σ H D I h⟩)) fun D σ H h => by
  obtain ⟨T, env, I, L, h⟩ := h
  refine ⟨T, env, I, L, ?_⟩
  unfold sTry at h
  cases q : mb env with
  | stuck => rw [q] at h; exact h.elim
  | ok f e' => rw [q] at h; cases f <;> exact h
  | ex c' e' =>
    rw [q] at h
    dsimp only at h
    intro T' H' σ' F' I' L' P'
    by_cases hc : c' = c
    · rw [if_pos hc] at h
      refine ⟨true, by rw [hx c' (.inr hc)]; simp [hc], fun _ a ha => ⟨by rw [hc], rfl, untag (isTm 0) T', e'.set i (some (.s (.opq a))), ?_, lt_untag L', ?_⟩, fun z => by cases z⟩
      · exact (untag_tm I').setD (by simp only [RepD])
      · rw [← hpar a] at h
        have FF : Fr T (untag (isTm 0) T') H H' := fr_untag F' L
        have PP : Pt prot σ (σ'.set i (some (.ref a))) := P'.trans (Pt.set hp)
        have dr : ∀ {T3 : TM} {H3 : Hp} {e3 : Env} {σ3 : L2.St}, EI X.K T3 H3 e3 σ3 → EI X.K T3 H3 (e3.set i none) (σ3.set i none) := fun {T3 H3 e3 σ3} I3 => by
          have I4 : EI X.K T3 H3 (e3.set i none) σ3 := ei_drop I3
          refine ⟨by simpa using I4.len, fun j o hj => ?_⟩
          obtain ⟨v, e1, r⟩ := I4.at_ j o hj
          refine ⟨v, ?_, r⟩
          by_cases hij : i = j
          · subst hij
            rw [List.getElem?_set] at hj
            split at hj <;> simp_all
          · rw [List.getElem?_set_ne hij]; exact e1
        have pr : ∀ {σ3 : L2.St}, Pt prot (σ'.set i (some (.ref a))) σ3 → Pt prot σ (σ3.set i none) := fun P3 => (PP.trans P3).trans (Pt.set hp)
        cases q2 : ms a (e'.set i (some (.s (.opq a)))) with
        | stuck => rw [q2] at h; exact h.elim
        | ex c3 e3 => rw [q2] at h; exact h.elim
        | ok f e2 =>
          rw [q2] at h
          simp only [erase] at h
          cases f with
          | nx => exact fun T3 H3 σ3 F3 I3 L3 P3 => h T3 H3 _ (FF.trans F3) (dr I3) L3 (pr P3)
          | bk => exact fun T3 H3 σ3 F3 I3 L3 P3 => h T3 H3 _ (FF.trans F3) (dr I3) L3 (pr P3)
          | ct => exact fun T3 H3 σ3 F3 I3 L3 P3 => h T3 H3 _ (FF.trans F3) (dr I3) L3 (pr P3)
          | rt o => exact fun v T3 H3 σ3 F3 I3 L3 P3 r => h v T3 H3 _ (FF.trans F3) (dr I3) L3 (pr P3) r
    · rw [if_neg hc] at h
      by_cases hn : c' < n
      · rw [if_pos hn] at h
        exact ⟨false, by rw [hx c' (.inl hn)]; simp [hc], (fun z => by cases z), fun _ => h T' H' σ' F' I' L' P'⟩
      · rw [if_neg hn] at h; exact h.elim
end
end MI
/-! MiGen: what the printed texts name. -/
namespace MI
open PySem L2
section
variable {X : Cx} {cx : Nat → Addr} {W : WX}
theorem t_bool {e : Expr} {t : TT} (h : PW X e t) : PT X e t := h.pt
theorem m_gstr {x : Str} {pos : Pos} (z : List Nat) (hm : ∃ t, X.mg x = some (.str ⟨z.toArray⟩ t)) (ho : (decide (z.length ≤ 16777216) && z.all (decide <| · < 1114112)) = true := by decide +kernel) (hg : Gl X x := by rfl) (hdb : (x == ("__debug__" : Str)) = false := by decide) :
    PE X (.Name x pos) (tE X.K cx W (eD (.str z))) := by
  obtain ⟨t, hm⟩ := hm
  refine m_glob (.str z) hm (show RelV (strV z) (.str ⟨z.toArray⟩ t) from ⟨t, rfl⟩) (fun H => ?_) hg hdb
  simp only [Bool.and_eq_true, decide_eq_true_eq, List.all_eq_true] at ho
  simp only [RepD]
  exact ⟨trivial, ho⟩
theorem m_gint {x : Str} {pos : Pos} (i : Int) (hm : ∃ t, X.mg x = some (.int i t)) (hg : Gl X x := by rfl) (hdb : (x == ("__debug__" : Str)) = false := by decide) : PE X (.Name x pos) (tE X.K cx W (eD (.int i))) := by
  obtain ⟨t, hm⟩ := hm
  exact m_glob (.int i) hm (show RelV (.int i) (.int i t) from ⟨t, rfl⟩) (fun H => by simp only [RepD]) hg hdb
end
section
variable {P : Program} {w : World} {K : PySem.W.Frag} {mg : Str → Option Value} {base : Heap} {cx : Nat → Addr}
theorem fn_okT {x qual : Str} {st : Stmt} {f : Addr} {fd : FuncData} {N ps : List Str} {k : Nat} {mask : List Bool} {body : SM} (F : Fun K x qual st f fd) (Sc : FnScope N ps (defScope st)) (hm : mask.length = ps.length)
    (hbody : ∀ (cdv : Value) (A : Around) (outer : List PySem.Env) (s : Shared) (H : Hp) (E : XK), Room k (A.deeper (PyProof.Rows.envOfC qual (defScope st) s.heap.objs.size f cdv)) → Takes (cxOf (L2.CX P w) P w K mg base N qual (defScope st) f cdv A outer s H E) (fun cls d _ H' => E cls d H') →
      PassesOwn (model P w) (A.deeper (PyProof.Rows.envOfC qual (defScope st) s.heap.objs.size f cdv)) (PyProof.Rows.envOfC qual (defScope st) s.heap.objs.size f cdv) (cxOf (L2.CX P w) P w K mg base N qual (defScope st) f cdv A outer s H E).xe →
      PSs (cxOf (L2.CX P w) P w K mg base N qual (defScope st) f cdv A outer s H E) (defBody st) (tS K cx (fun cls d _ H' => E cls d H') (protOf mask) body)) : FnOk P w K mg base (L2.CX P w) (k + 1) f fd ps (spM K cx mask (fnCR body N.length)) :=
  fn_ok F Sc hm fun cdv A outer s H E hr => hbody cdv A outer s H E hr (takes_of rfl rfl rfl rfl) (passes_of rfl)
end
/-- a target that is unpacked -/
def sTgt (m : EM Rs) (g : Tgt) : SM := bd m fun r => bd (gv r) fun d => fun e => match g d e with
  | some e' => .ok .nx e'
  | none => .stuck
section
variable {X : Cx} {cx : Nat → Addr} {W : WX} {prot : Nat → Bool} {e tgt : Expr} {me : EM Rs} {g : Tgt} {pos : Pos}
theorem s_tgt (he : PE X e (tE X.K cx W me)) (hg : PG X tgt (tG X.K prot g)) (hs : swapsWithSole [tgt] e pos.line X.env = pure false := by rfl) (hw : swappedStores [tgt] e X.env = pure none := by rfl) (h1 : (assignEach [tgt] X.env).map (·.2) = [assign tgt X.env] := by rfl) :
    PS X (.Assign [tgt] e pos) (tS X.K cx W prot (sTgt me g)) := PSimp (ps_asg he hg hs hw h1) fun D σ H h => by
  obtain ⟨T, env, I, L, h⟩ := h
  refine ⟨T, env, 0, I, L, h.bd fun r1 e1 T1 H1 F1 I1 L1 h1 v hv => ?_⟩
  unfold bd at h1
  cases q : gv r1 e1 with
  | stuck => rw [q] at h1; exact h1.elim
  | ex c e' => exact absurd q gv_noex
  | ok d e2 =>
    rw [q] at h1
    dsimp only at h1
    obtain ⟨z, F2, I2, L2, r2⟩ := gv_ok L F1 I1 L1 hv q
    obtain ⟨F3, I3, L3⟩ := clean L F2 I2 L2
    have r3 := d_untag (r := isTm 0) r2
    cases q2 : g d e2 with
    | none => rw [q2] at h1; exact h1.elim
    | some e3 =>
      rw [q2] at h1
      exact ⟨_, e2, d, e3, I3, r3, q2, fun σ' I4 l4 P4 => h1 _ H1 σ' F3 I4 L3 P4⟩
end
theorem par_lst (x : List Nat) (i : Nat) (b : Bool) (a : Addr) (e : Env) : erase i (sRet (eLst [eD (.str x), eIsE a i b]) (e.set i (some (.s (.opq a))))) = erase i (sRet (eLst [eD (.str x), eIsE 0 i b]) (e.set i (some (.s (.opq 0))))) := by
  by_cases h : i < e.length
  · simp [sRet, eLst, evs, gvs, gv, eIsE, eD, bd, MI.ret, hold, erase, opnd, List.getElem?_set, h]
  · simp [sRet, eLst, evs, gvs, gv, eIsE, eD, bd, MI.ret, hold, erase, opnd, List.getElem?_set, h]
end MI
/-! MiPl: MI's words upon values that are partly known: rows to rewrite by. -/
namespace MI
abbrev I (i : Int) : O := .s (.int i)
theorem mulR {i j : Int} (h1 : -18446744073709551616 < j) (h2 : j < 18446744073709551616) : fMulA (.s (.int i)) (.s (.int j)) = some (.s (.int (i * j))) := by
  simp [fMulA, orF, fMulI, h1, h2]
theorem mulL {i j : Int} (h1 : -18446744073709551616 < i) (h2 : i < 18446744073709551616) : fMulA (.s (.int i)) (.s (.int j)) = some (.s (.int (i * j))) := by
  simp [fMulA, orF, fMulI, h1, h2]
theorem modE {i j : Int} (h : 0 < j) : fMod (.s (.int i)) (.s (.int j)) = some (.s (.int (i % j))) := by
  have h0 : j ≠ 0 := by omega
  simp [fMod, h0, Int.fmod_eq_emod_of_nonneg _ (show 0 ≤ j by omega)]
theorem divE {i j : Int} (h : 0 < j) (h2 : j < 1073741824) : fDiv (.s (.int i)) (.s (.int j)) = some (.s (.int (i / j))) := by
  have h0 : j ≠ 0 := by omega
  have h1 : j.natAbs < 1073741824 := by omega
  simp [fDiv, h0, h1, Int.fdiv_eq_ediv_of_nonneg _ (show 0 ≤ j by omega)]
theorem addI {i j : Int} : fAdd (.s (.int i)) (.s (.int j)) = some (.s (.int (i + j))) := rfl
theorem addS {x y : List Nat} (h : x.length + y.length ≤ 16777216) : fAdd (.s (.str x)) (.s (.str y)) = some (.s (.str (x ++ y))) := by
  unfold fAdd orF fAddI fAddS
  simp [h]
theorem subI {i j : Int} : fSub (.s (.int i)) (.s (.int j)) = some (.s (.int (i - j))) := rfl
theorem eqI {i j : Int} : gEq (.s (.int i)) (.s (.int j)) = some (decide (i = j)) := by
  unfold gEq
  simp [frz, toP, PySem.SeqAt.shaped, PySem.PyData.canLay0, PySem.PyData.depth, PySem.PyData.eqv]
  rfl
theorem eqB {i j : Bool} : gEq (.s (.bl i)) (.s (.bl j)) = some (decide (i = j)) := by
  unfold gEq
  simp [frz, toP, PySem.SeqAt.shaped, PySem.PyData.canLay0, PySem.PyData.depth, PySem.PyData.eqv]
  cases i <;> cases j <;> rfl
def okS (x : List Nat) : Bool := x.all (· < 1114112)
theorem eqS {x y : List Nat} (h1 : okS x = true) (h2 : okS y = true) : gEq (.s (.str x)) (.s (.str y)) = some (decide (x = y)) := by
  unfold gEq
  have e : ∀ z : List Nat, okS z = true → PySem.SeqAt.shaped (.str ⟨z.toArray⟩) = true := fun z hz => by
    simp only [PySem.SeqAt.shaped, PySem.PyData.canLay0, PySem.PyData.depth, Bool.and_eq_true]
    refine ⟨?_, by simp⟩
    unfold okS at hz
    show (z.toArray.all fun c => decide (c < 0x110000)) = true
    simpa using hz
  simp only [frz, toP, e x h1, e y h2, Bool.and_self, if_true, PySem.PyData.eqv, Option.some.injEq]
  rw [Bool.eq_iff_iff, beq_iff_eq, decide_eq_true_eq]
  constructor
  · intro h
    have := congrArg (fun s : PySem.Str => s.cps.toList) h
    simpa using this
  · rintro rfl
    rfl
end MI
namespace MI
/-- a call's answer, and what it leaves of its first argument -/
def Gives (c : CR) (o : O) (u : Option O) : Prop := ∃ e, c = .ok o e ∧ (e[0]?).join = u
def Ans (c : CR) (o : O) : Prop := ∃ e, c = .ok o e
theorem sq {a b : SM} {e e1 : Env} (h : a e = .ok .nx e1) : sseq a b e = b e1 := by simp [sseq, bd, h]
theorem sqr {a b : SM} {e e1 : Env} {o : O} (h : a e = .ok (.rt o) e1) : sseq a b e = .ok (.rt o) e1 := by simp [sseq, bd, h, MI.ret]
end MI
namespace MI
theorem loop_inv {tg : Tgt} {body : SM} (P : Nat → Env → Prop) : ∀ (ds : List D) (i : Nat) (e : Env), P i e → (∀ (j : Nat) (d : D) (e : Env), ds[j]? = some d → P (i + j) e → ∃ e1 e2, tg d e = some e1 ∧ body e1 = .ok .nx e2 ∧ P (i + j + 1) e2) →
    ∃ e', loop tg body ds e = .ok .nx e' ∧ P (i + ds.length) e'
  | [], i, e, h, _ => ⟨e, rfl, h⟩
  | d :: ds, i, e, h, st => by
    obtain ⟨e1, e2, h1, h2, h3⟩ := st 0 d e rfl h
    obtain ⟨e', h4, h5⟩ := loop_inv P ds (i + 1) e2 h3 fun j d' e hj hp => by
      have := st (j + 1) d' e (by simpa using hj) (by rw [show i + (j + 1) = i + 1 + j by omega]; exact hp)
      rw [show i + (j + 1) + 1 = i + 1 + j + 1 by omega] at this
      exact this
    refine ⟨e', ?_, by rw [List.length_cons, show i + (ds.length + 1) = i + 1 + ds.length by omega]; exact h5⟩
    simp only [loop, h1, bd, h2]
    exact h4
/-- a comprehension whose parts may change what is drawn from -/
theorem lc_inv {tg : Tgt} {cond : EM Bool} {elt : EM Rs} {own : List Nat} (P : Nat → Env → Prop) (Q : D → Prop) : ∀ (ds : List D) (i : Nat) (e : Env), P i e →
    (∀ (j : Nat) (d : D) (e : Env), ds[j]? = some d → P (i + j) e → ∃ e1 e2 e3 r e4 x, tg d e = some e1 ∧ cond e1 = .ok true e2 ∧ elt e2 = .ok r e3 ∧ gv r e3 = .ok x e4 ∧ Q x ∧ P (i + j + 1) (wipeE e4 own)) →
    ∃ xs e', lcLoop tg cond elt own ds e = .ok xs e' ∧ xs.length = ds.length ∧ (∀ x ∈ xs, Q x) ∧ P (i + ds.length) e'
  | [], i, e, h, _ => ⟨[], e, rfl, rfl, by simp, h⟩
  | d :: ds, i, e, h, st => by
    obtain ⟨e1, e2, e3, r, e4, x, h1, h2, h3, h4, hq, h5⟩ := st 0 d e rfl h
    obtain ⟨xs, e', q1, q2, q3, q4⟩ := lc_inv P Q ds (i + 1) (wipeE e4 own) h5 fun j d' e hj hp => by
      have := st (j + 1) d' e (by simpa using hj) (by rw [show i + (j + 1) = i + 1 + j by omega]; exact hp)
      rw [show i + (j + 1) + 1 = i + 1 + j + 1 by omega] at this
      exact this
    refine ⟨x :: xs, e', ?_, by simp [q2], fun y hy => ?_, by rw [List.length_cons, show i + (ds.length + 1) = i + 1 + ds.length by omega]; exact q4⟩
    · simp only [lcLoop, h1, bd, h2, if_true, h3, h4, q1, MI.ret]
    · rcases List.mem_cons.mp hy with rfl | z
      · exact hq
      · exact q3 y z
/-- a comprehension whose parts change nothing -/
theorem lc_pure {tg : Tgt} {cond : EM Bool} {elt : EM Rs} {own : List Nat} {e : Env} (f : D → Bool) (g : D → D) : ∀ (ds : List D),
    (∀ d ∈ ds, ∃ e1 e2, tg d e = some e1 ∧ cond e1 = .ok (f d) e2 ∧ (f d = false → wipeE e2 own = e) ∧ (f d = true → ∃ r e3 e4, elt e2 = .ok r e3 ∧ gv r e3 = .ok (g d) e4 ∧ wipeE e4 own = e)) →
    lcLoop tg cond elt own ds e = .ok ((ds.filter f).map g) e
  | [], _ => rfl
  | d :: ds, st => by
    obtain ⟨e1, e2, h1, h2, h3, h4⟩ := st d (by simp)
    have ih := lc_pure f g ds fun d' hd => st d' (List.mem_cons_of_mem _ hd)
    cases hf : f d with
    | false =>
      rw [hf] at h2
      simp only [lcLoop, h1, bd, h2, Bool.false_eq_true, if_false, h3 hf, ih, List.filter_cons, hf]
    | true =>
      rw [hf] at h2
      obtain ⟨r, e3, e4, q1, q2, q3⟩ := h4 hf
      simp only [lcLoop, h1, bd, h2, if_true, q1, q2, q3, ih, MI.ret, List.filter_cons, hf, List.map_cons]
end MI
namespace MI
section
variable {α : Type} {a b body : SM} {c : EM Bool} {e e1 e2 : Env} {r : R Fl} {it : EM (List D)} {tg : Tgt} {ds : List D} {o : O} {m : EM Rs} {x : Rs} {args : List O} {n : Nat} {u : Option O}
theorem go (h : a e = .ok .nx e1) (k : b e1 = r) : sseq a b e = r := (sq h).trans k
theorem goR (h : a e = .ok (.rt o) e1) : sseq a b e = .ok (.rt o) e1 := sqr h
theorem goX {k : Nat} (h : a e = .ex k e1) : sseq a b e = .ex k e1 := by simp [sseq, bd, h]
theorem goF (h : it e = .ok ds e1) (k : loop tg body ds e1 = r) : sFor it tg body e = r := by simp only [sFor, bd, h]; exact k
theorem goT (h : c e = .ok true e1) (k : a e1 = r) : sIf c a b e = r := by simp only [sIf, bd, h, if_true]; exact k
theorem goE (h : c e = .ok false e1) (k : b e1 = r) : sIf c a b e = r := by simp only [sIf, bd, h, Bool.false_eq_true, if_false]; exact k
theorem goV (h : m e = .ok (.v o) e1) : sRet m e = .ok (.rt o) e1 := by simp [sRet, bd, h, hold, MI.ret]
theorem goA {i : Nat} (h : m e = .ok (.v o) e1) : sAsg i m e = .ok .nx (e1.set i (some o)) := by simp [sAsg, bd, h, hold, MI.ret]
theorem gives (h : body (args.map some ++ List.replicate (n - args.length) none) = .ok (.rt o) e1) (hu : (e1[0]?).join = u) : Gives (fnCR body n args) o u := ⟨e1, by simp [fnCR, h], hu⟩
theorem ans (h : body (args.map some ++ List.replicate (n - args.length) none) = .ok (.rt o) e1) : Ans (fnCR body n args) o := ⟨e1, by simp [fnCR, h]⟩
theorem Gives.ans {c : CR} (h : Gives c o u) : Ans c o := by obtain ⟨e, h, _⟩ := h; exact ⟨e, h⟩
/-- a list comprehension -/
theorem goL {tg : Tgt} {cond : EM Bool} {elt : EM Rs} {own : List Nat} {xs : List D} (h : it e = .ok ds e1) (k : lcLoop tg cond elt own ds (wipeE e1 own) = .ok xs e2) (hl : xs.length ≤ 16777216) : eLc it tg cond elt own e = .ok (.v (.l (xs.map .s))) (restE e1 own e2) := by
  simp only [eLc, bd, h, k, if_pos hl]
end
end MI
namespace MI
theorem frzs_map : ∀ ds : List D, frzs (ds.map .s) = ds
  | [] => rfl
  | d :: ds => by simp [frzs, frz, frzs_map ds]
theorem frz_l (ds : List D) : frz (.l (ds.map .s)) = .lst ds := by simp [frz, frzs_map]
theorem goN {i : Nat} {e : Env} {o : O} {d : D} (h : (e[i]?).join = some o) (hd : frz o = d) : sRet (eVar i) e = .ok (.rt (.s d)) (e.set i (some (.s d))) := by
  subst hd
  simp [sRet, eVar, bd, h, hold, MI.ret]
theorem goM {i j : Nat} {e : Env} {o : O} {d : D} (h : (e[i]?).join = some o) (hd : frz o = d) : sAsg j (eVar i) e = .ok .nx ((e.set i (some (.s d))).set j (some (.s d))) := by
  subst hd
  simp [sAsg, eVar, bd, h, hold, MI.ret]
end MI
namespace MI
theorem goSm {f : O → O → Option O} {m a : EM Rs} {e e1 e2 : Env} {r1 r2 : Rs} {s : List Nat} {o1 o2 o : O} (h1 : m e = .ok r1 e1) (hs : look e1 r1 = some (.s (.str s))) (h2 : a e1 = .ok r2 e2) (h3 : look e2 (opnd r1) = some o1) (h4 : look e2 r2 = some o2) (h5 : f o1 o2 = some o) :
    eSm f m a e = .ok (.v o) e2 := by simp [eSm, bd, h1, isS, hs, h2, h3, h4, h5]
end MI
namespace MI
section
variable {m a b : EM Rs} {ms : List (EM Rs)} {e e1 e2 e3 : Env} {r r1 r2 : Rs} {rs : List Rs} {o o1 o2 : O} {os : List O} {x : R Rs} {f : List O → Option O} {g : O → O → Option O} {cm : List O → CR} {mask : List Bool} {outs : Env} {ds : List D}
theorem ev0 : evs [] e = .ok [] e := rfl
theorem evC (h : m e = .ok r e1) (k : evs ms e1 = .ok rs e2) : evs (m :: ms) e = .ok (opnd r :: rs) e2 := by simp [evs, bd, h, k, MI.ret]
theorem goB (h : evs ms e = .ok rs e1) (hl : lookAll e1 rs = some os) (hf : f os = some o) : callB f ms e = .ok (.v o) e1 := by simp [callB, bd, h, hl, hf]
theorem goB1 (h : m e = .ok r e1) (hl : look e1 (opnd r) = some o1) (hf : f [o1] = some o) : callB f [m] e = .ok (.v o) e1 := goB (evC h ev0) (by simp [lookAll, hl]) hf
theorem goAnd (h : a e = .ok r e1) (hl : look e1 r = some o) (ht : truO o = some true) (k : b e1 = x) : vAnd a b e = x := by simp [vAnd, bd, h, hl, ht, k]
theorem goAndF (h : a e = .ok r e1) (hl : look e1 r = some o) (ht : truO o = some false) : vAnd a b e = .ok r e1 := by simp [vAnd, bd, h, hl, ht]
theorem go2 (h : a e = .ok r1 e1) (k : b e1 = .ok r2 e2) (h1 : look e2 (opnd r1) = some o1) (h2 : look e2 r2 = some o2) (hf : g o1 o2 = some o) : op2 g a b e = .ok (.v o) e2 := by simp [op2, bd, h, k, h1, h2, hf]
theorem goU (h : evs ms e = .ok rs e1) (hp : prep mask rs e1 = .ok os e2) (hc : cm os = .ok o outs) : callU cm mask ms e = .ok (.v o) (MI.backTo (insOf mask rs) 0 outs e2) := by simp [callU, bd, h, hp, hc]
theorem goUx {k : Nat} (h : evs ms e = .ok rs e1) (hp : prep mask rs e1 = .ok os e2) (hc : cm os = .ex k outs) : callU cm mask ms e = .ex k (MI.backTo (insOf mask rs) 0 outs e2) := by simp [callU, bd, h, hp, hc]
theorem goTup (h : evs ms e = .ok rs e1) (hg : gvs rs e1 = .ok ds e2) : eTup ms e = .ok (.v (.s (.tup ds))) e2 := by simp [eTup, bd, h, hg, MI.ret]
theorem goLst (h : evs ms e = .ok rs e1) (hg : gvs rs e1 = .ok ds e2) : eLst ms e = .ok (.v (.l (ds.map .s))) e2 := by simp [eLst, bd, h, hg, MI.ret]
theorem goTst {k : Bool} (h : m e = .ok r e1) (hl : look e1 r = some o) (ht : truO o = some k) : tst m e = .ok k e1 := by simp [tst, bd, h, hl, ht]
theorem goNot {c : EM Bool} {k : Bool} (h : c e = .ok k e1) : bNot c e = .ok (!k) e1 := by simp [bNot, bd, h, MI.ret]
/-- a call of one argument, two, three, all given up -/
theorem goU1 {d : D} (h : m e = .ok r e1) (hg : gv (opnd r) e1 = .ok d e2) (hc : Ans (cm [.s d]) o) : callU cm [false] [m] e = .ok (.v o) e2 := by
  obtain ⟨outs, hc⟩ := hc
  have := goU (mask := [false]) (cm := cm) (evC h ev0) (by simp [prep, bd, hg, MI.ret]; rfl) hc
  simpa [insOf, MI.backTo] using this
theorem goUs (h : evs ms e = .ok rs e1) (hp : prep mask rs e1 = .ok os e2) (hi : ∀ outs, MI.backTo (insOf mask rs) 0 outs e2 = e3) (hc : Ans (cm os) o) : callU cm mask ms e = .ok (.v o) e3 := by
  obtain ⟨outs, hc⟩ := hc
  rw [goU h hp hc, hi]
end
end MI
namespace MI
theorem ltI {i j : Int} : gLtD (.s (.int i)) (.s (.int j)) = some (decide (i < j)) := by
  unfold gLtD
  simp [frz, toP, PySem.SeqAt.shaped, PySem.PyData.canLay0, PySem.PyData.depth, ltP]
end MI
namespace MI
theorem goR1 {m : EM Rs} {e e1 : Env} {r : Rs} {n : Int} (h : m e = .ok r e1) (hl : look e1 (opnd r) = some (.s (.int n))) (hk : okR n = true) : itR1 m e = .ok (rngD 0 n) e1 := by
  have h2 : evs [m] e = .ok [opnd r] e1 := evC h ev0
  simp only [itR1, bd, h2, lookAll, hl, hk, if_true]
theorem goR2 {a b : EM Rs} {e e1 e2 : Env} {r1 r2 : Rs} {n m : Int} (h : a e = .ok r1 e1) (k : b e1 = .ok r2 e2) (hl : look e2 (opnd r1) = some (.s (.int n))) (hl2 : look e2 (opnd r2) = some (.s (.int m))) (hk : okR n = true) (hk2 : okR m = true) : itR2 a b e = .ok (rngD n m) e2 := by
  have h2 : evs [a, b] e = .ok [opnd r1, opnd r2] e2 := evC h (evC k ev0)
  simp only [itR2, bd, h2, lookAll, hl, hl2, hk, hk2, Bool.and_self, if_true]
end MI
namespace MI
theorem evK0 {ks : List (EM Rs)} {perm : List Nat} {e e1 : Env} {rs : List Rs} (h : evs ks e = .ok rs e1) : evK perm [] ks e = .ok (pick perm rs) e1 := by simp [evK, bd, evs, h, MI.ret]
theorem goK {cm : List O → CR} {mask : List Bool} {perm : List Nat} {ks : List (EM Rs)} {e e1 e2 e3 : Env} {rs : List Rs} {os : List O} {o : O} (h : evs ks e = .ok rs e1) (hp : prep mask (pick perm rs) e1 = .ok os e2) (hi : ∀ outs, MI.backTo (insOf mask (pick perm rs)) 0 outs e2 = e3) (hc : Ans (cm os) o) : callK cm mask perm [] ks e = .ok (.v o) e3 := by
  obtain ⟨outs, hc⟩ := hc
  simp [callK, bd, evK0 h, hp, hc, hi]
end MI
namespace MI
theorem goMut {f : List O → List D → Option (D × List O)} {i : Nat} {ms : List (EM Rs)} {e e1 e2 : Env} {rs : List Rs} {ds : List D} {os0 os os' : List O} {d : D} (h0 : (e[i]?).join = some (.l os0)) (h : evs ms e = .ok rs e1) (hg : gvs rs e1 = .ok ds e2) (h2 : (e2[i]?).join = some (.l os)) (hf : f os ds = some (d, os')) :
    sExpr (eMut f i ms) e = .ok .nx (e2.set i (some (.l os'))) := by simp [sExpr, eMut, bd, h0, h, hg, h2, hf, MI.ret]
theorem goCT {cm : List O → CR} {m : EM Rs} {e e1 : Env} {o o' : O} (h : m e = .ok (.v o) e1) (hc : Ans (cm [o]) o') : callT cm m e = .ok (.v o') e1 := by
  obtain ⟨_, hc⟩ := hc
  simp [callT, bd, h, hc]
end MI
/-! MiEnd: the head's facts, with those of caught exceptions. -/
namespace MI
open PySem PySem.Spec PyProof.Rows L2
def eqOO {α : Type} [DecidableEq α] (a b : α) : Bool := decide (a = b)
/-- what is asked of a class whose instances isinstance is asked about -/
def exB (K : PySem.W.Frag) (D : Addr) : Bool :=
  He.eqO (PySem.W.findIn K (.ref D) "__getattribute__") (some (some (.builtin "BaseException.__getattribute__"))) && (He.eqO (PySem.W.findIn K (.ref D) "__getattr__") (some none) &&
    (decide (PySem.W.subIn K (.ref D) (.type "BaseException") = some true) && (PySem.W.hasDictIn K D && (He.eqO (PySem.W.findIn K (.ref D) "__class__") (some (some (.builtin "object.__class__"))) &&
      (He.eqO (PySem.W.specialIn K (.builtin "object.__class__") "__get__") (some (some (.builtin "getset_descriptor.__get__"))) && (decide (PySem.W.takesIn K (.builtin "object.__class__") = some true) &&
        (decide (PySem.W.mroIn K D (.type "object") = some true) && decide (PySem.W.kitOne K (.ref D) (.type "ValueError") = some true))))))))
theorem exB_ok {K : PySem.W.Frag} {D : Addr} (h : exB K D = true) : ExcC K D ∧ PySem.W.kitOne K (.ref D) (.type "ValueError") = some true := by
  unfold exB at h
  simp only [Bool.and_eq_true, decide_eq_true_eq] at h
  obtain ⟨h1, h2, h3, h4, h5, h6, h7, h8, h9⟩ := h
  exact ⟨⟨He.eqO_ok h1, He.eqO_ok h2, h3, h4, He.eqO_ok h5, He.eqO_ok h6, h7, h8⟩, h9⟩
def obsM (fa : List He.Fa) (fn : List He.FnD) (ex : List Str) (K : PySem.W.Frag) : Bool × He.Al := (ex.all fun x => exB K (He.ga K x), He.obsE fa fn K)
/-- what the end leans on -/
structure SaysM (fa : List He.Fa) (fn : List He.FnD) (ex : List Str) (K : PySem.W.Frag) : Prop where
  fst : He.SaysE fa fn K
  snd : ∀ x, x ∈ ex → ExcC K (He.ga K x) ∧ PySem.W.kitOne K (.ref (He.ga K x)) (.type "ValueError") = some true
theorem saysM_of {fa : List He.Fa} {fn : List He.FnD} {ex : List Str} {K : PySem.W.Frag} (h : obsM fa fn ex K = (true, He.valE fn)) : SaysM fa fn ex K := by
  unfold obsM at h
  simp only [Prod.mk.injEq] at h
  refine ⟨?_, fun x hx => exB_ok (List.all_eq_true.mp h.1 x hx)⟩
  unfold He.SaysE
  exact h.2
def obsMG (n : Nat) (fa : List He.Fa) (fn : List He.FnD) (ex : List Str) (g : Addr → Option Obj) : Bool × He.Al := obsM fa fn ex (He.frG g (He.asG g n))
def hookM (n : Nat) (fa : List He.Fa) (fn : List He.FnD) (ex : List Str) : PySem.W.Hook where
  α := Bool × He.Al
  obs := fun s => obsMG n fa fn ex s.heap.get?
  val := fun _ => (true, He.valE fn)
  says := fun _ h => ∃ K : PySem.W.Frag, K.In h ∧ SaysM fa fn ex K
  of := fun _ _ e => ⟨_, He.frG_in, saysM_of e⟩
  keeps := fun _ _ _ ⟨K, hK, c⟩ k => ⟨K, PySem.W.Frag.In.keeps hK k, c⟩
theorem obsMG_eq {n : Nat} {fa : List He.Fa} {fn : List He.FnD} {ex : List Str} {g : Addr → Option Obj} {s : Shared} (h : ∀ a, g a = s.heap.get? a) : obsMG n fa fn ex g = (hookM n fa fn ex).obs s := by
  have e : g = s.heap.get? := funext h
  rw [e] <;> rfl
theorem xf_of {K : PySem.W.Frag} {h : Heap} {mg : Str → Option Value} {cx : Nat → Addr} {c : Nat} {x : Str} (X : K.In h) (G : h.Ns mainGlobals mg) (f : (He.Fa.exc x).ok K = true) (gl : mg x = some (.ref (cx c))) (e : cx c = He.ga K x) : XF K mg cx c x := by
  obtain ⟨h1, h2, h3, h4⟩ := He.exc_ok f
  exact ⟨by rw [e]; exact h1, gl, by rw [e]; exact h2, by rw [e]; exact h3, by rw [e]; exact h4⟩
/-- a law's promise from what it comes to -/
theorem sp_law {K : PySem.W.Frag} {cx : Nat → Addr} {cm : List O → CR} (h : ∀ ns : List Int, ns.length ≤ 63 → ∃ e, cm [.s (.scr (ns.map .int))] = .ok (.s (.bl true)) e) (H : Hp) (a : Addr) (ns : List Int) (hl : ns.length ≤ 63) (hS : SqL K H a (ns.map V.int)) :
    spM K cx [false] cm [.ref a] H (fun v _ => v = .bl true) (fun _ _ _ => False) := by
  obtain ⟨e, he⟩ := h ns hl
  have es : S (fun _ => none) H = H := by funext b; simp [S]
  have rr : ∀ ms : List Int, RepDs K H (ms.map .int) (ms.map V.int) := fun ms => by
    induction ms with
    | nil => simp [RepDs]
    | cons m ms ih => simp only [List.map_cons, RepDs, RepD]; exact ⟨_, _, rfl, rfl, ih⟩
  refine ⟨fun _ => none, [.s (.scr (ns.map .int))], rfl, rfl, fun j o ho => ?_, (fun b i p z => by cases z), ?_⟩
  · cases j with
    | zero =>
      simp only [List.getElem?_cons_zero, Option.some.injEq] at ho
      subst ho
      refine ⟨.ref a, rfl, ?_⟩
      simp only [RepO, RepD]
      rw [es]
      exact ⟨a, _, rfl, hS, rr ns⟩
    | succ j => simp at ho
  · rw [he]
    intro v T' H' F L r out
    simpa only [RepO, RepD] using r
/-- walk_ofE, for a law whose defs raise -/
theorem walk_ofM {l : PySem.W.OpenLaw} {k : Nat} {q : Program} {loose : List Str} {XP : (Str → Option Value) → Heap → Prop} {YP : World → Heap → Prop} {d : DefRec} {P : Program} (hP : l.prog = P) (hn : l.most = some 63) (hdf : d.params.defaults = []) (hr : Room k callerA)
    (F : ∀ (w : World) (mg : Str → Option Value) (fa : Addr) (h : Heap), YP w h → h.Ns mainGlobals mg → mg d.name = some (.ref fa) → ∃ (K : PySem.W.Frag) (fd : FuncData) (sp : Sp), K.In h ∧ (∀ (s : Shared) (u : Value), BindsTo s fd ⟨[u], []⟩ [("script", u)]) ∧
      (∀ (H : Hp) (a : Addr) (ns : List Int), ns.length ≤ 63 → SqL K H a (ns.map V.int) → sp [.ref a] H (fun v _ => v = .bl true) fun _ _ _ => False) ∧ ∀ base : Heap, FnOk P w K mg base (L2.CX P w) k fa fd ["script"] sp) : PySem.W.WalkO q loose XP YP l.row.toRowW d [] (fun f vs => PySem.call f vs) := by
  subst hP
  refine Att.attach_call hn hdf fun w s₀ s₁ mg mb fa o pm cd doc a vs ns G Y ho hd hcd hmg hobj hints hlen hg => ?_
  obtain ⟨K, fd, sp, KX, hb, hsp, hF⟩ := F w mg fa _ Y G.T.g hmg
  have big : (63 : Nat) ≤ sizeLine := by rw [sizeLine_eq]; decide
  exact law_call KX G.T.g G.T.b G.T.builtins G.T.nolimit hg hobj hints (Nat.le_trans hlen big) hr (fun base _ _ => hF base) hb (fun H _ hS => hsp H a ns hlen hS) fun H e s' z => z.choose_spec.choose_spec.choose_spec.choose_spec.choose_spec.2.2.2.2.2.2.2
end MI
/-! MiSetA: sets whose members are tuples of any hashable things (NestedKey): searching, adding. -/
namespace MiS
open PySem PySem.Spec PyProof.Rows L2

section
variable {P : Program} {w : World} {A : Around} {E : Value → Shared → Prop} {s : Shared}

/-! ### what a search asks of a key -/
mutual
theorem cls_no : ∀ (k : NestedKey) (v : Value) (n : Nat) (s : Shared) (Q : Bool → Shared → Prop), NestedIs s.heap k v → k.depth ≤ n → Q false s → wpAny (model P w) A (ofAClassStatement n v) Q E s
  | .none, _, n, s, Q, x, _, q => by cases x; cases n <;> exact wpAny_pure q
  | .num _, _, n, s, Q, x, _, q => by cases x <;> cases n <;> exact wpAny_pure q
  | .text _, _, n, s, Q, x, _, q => by cases x; cases n <;> exact wpAny_pure q
  | .tup ks, _, 0, _, _, _, hd, _ => absurd hd (by simp [NestedKey.depth])
  | .tup ks, _, n + 1, s, Q, x, hd, q => by
    cases x with
    | @tup a o vs m _ g1 g2 g3 g4 =>
      have hT : s.TypeIs (.ref a) "tuple" := ⟨o, g1, g2⟩
      unfold ofAClassStatement
      refine wpAny_bind (wpAny_typeOf hT ?_); dsimp only
      have e : (("tuple" : String) == "tuple") = true := by decide
      simp only [e, if_true, Bool.not_true, Bool.false_eq_true, if_false]
      try refine wpAny_bind (wpAny_pure ?_)
      try simp only [Bool.not_true, Bool.false_eq_true, if_false]
      show wpAny _ _ (seqItems? (.ref a) >>= _) _ _ s
      refine wpAny_bind (wpAny_seqItems g1 g3 ?_); dsimp only
      refine wpAny_bind ?_
      show wpAny _ _ (forIn vs _ _) _ _ s; rw [← Array.forIn_toList]
      have hd' : NestedKey.depthAll ks ≤ n := by simp only [NestedKey.depth] at hd; omega
      refine wpAny_forIn_list _ (fun left r s' => r.1 = none ∧ s' = s ∧ ∀ v ∈ left, ∀ (Q' : Bool → Shared → Prop), Q' false s → wpAny (model P w) A (ofAClassStatement n v) Q' E s) _ ?_ ?_ _ _ ⟨rfl, rfl, cls_nos ks _ n s g4 hd'⟩
      · rintro v left r s' ⟨hr, rfl, all⟩
        refine wpAny_bind (all v List.mem_cons_self _ ?_); simp only [Bool.false_eq_true, if_false]
        exact wpAny_pure ⟨rfl, rfl, fun u hu => all u (List.mem_cons_of_mem _ hu)⟩
      · rintro ⟨r1, r2⟩ s' ⟨hr, rfl, _⟩
        simp only at hr; subst hr
        exact wpAny_pure q
theorem cls_nos : ∀ (ks : List NestedKey) (vs : List Value) (n : Nat) (s : Shared), NestedAll s.heap ks vs → NestedKey.depthAll ks ≤ n → ∀ v ∈ vs, ∀ (Q : Bool → Shared → Prop), Q false s → wpAny (model P w) A (ofAClassStatement n v) Q E s
  | [], _, _, _, x, _ => by cases x; intro v hv; cases hv
  | k :: ks, _, n, s, x, hd => by
    cases x with
    | cons x1 x2 =>
      simp only [NestedKey.depthAll] at hd
      intro v hv Q q
      rcases List.mem_cons.mp hv with rfl | hv
      · exact cls_no k _ n s Q x1 (by omega) q
      · exact cls_nos ks _ n s x2 (by omega) v hv Q q
end
/-! whether hash goes by value: either answer will do -/
mutual
theorem hbv : ∀ (k : NestedKey) (v : Value) (n : Nat) (s : Shared) (Q : Bool → Shared → Prop), NestedIs s.heap k v → (∀ b, Q b s) → wpAny (model P w) A (hashByValue n v) Q E s
  | .none, _, n, s, Q, x, q => by cases x; cases n <;> exact wpAny_pure (q _)
  | .num _, _, n, s, Q, x, q => by cases x <;> cases n <;> exact wpAny_pure (q _)
  | .text _, _, n, s, Q, x, q => by cases x; cases n <;> exact wpAny_pure (q _)
  | .tup ks, _, 0, _, _, x, q => by cases x; exact wpAny_pure (q _)
  | .tup ks, _, n + 1, s, Q, x, q => by
    cases x with
    | @tup a o vs m _ g1 g2 g3 g4 =>
      have hT : s.TypeIs (.ref a) "tuple" := ⟨o, g1, g2⟩
      unfold hashByValue
      refine wpAny_bind (wpAny_specialOf hT F.slot_tuple_hash.lookup ?_)
      show wpAny _ _ (seqItems? (.ref a) >>= _) _ _ s
      refine wpAny_bind (wpAny_seqItems g1 g3 ?_)
      refine wpAny_bind ?_
      show wpAny _ _ (forIn vs _ _) _ _ s; rw [← Array.forIn_toList]
      refine wpAny_forIn_list _ (fun left r s' => s' = s ∧ (r.1 = none ∨ left = [] ) ∧ ∀ v ∈ left, ∀ (Q' : Bool → Shared → Prop), (∀ b, Q' b s) → wpAny (model P w) A (hashByValue n v) Q' E s) _ ?_ ?_ _ _ ⟨rfl, .inl rfl, hbvs ks _ n s g4⟩
      · rintro v left r s' ⟨rfl, hr, all⟩
        refine wpAny_bind (all v List.mem_cons_self _ fun b => ?_)
        cases b with
        | false =>
          simp only [Bool.not_false, if_true]
          exact wpAny_pure (wpAny_pure (q _))
        | true =>
          simp only [Bool.not_true, Bool.false_eq_true, if_false]
          exact wpAny_pure ⟨rfl, .inl rfl, fun u hu => all u (List.mem_cons_of_mem _ hu)⟩
      · rintro ⟨r1, r2⟩ s' ⟨rfl, _, _⟩
        cases r1 <;> exact wpAny_pure (q _)
theorem hbvs : ∀ (ks : List NestedKey) (vs : List Value) (n : Nat) (s : Shared), NestedAll s.heap ks vs → ∀ v ∈ vs, ∀ (Q : Bool → Shared → Prop), (∀ b, Q b s) → wpAny (model P w) A (hashByValue n v) Q E s
  | [], _, _, _, x => by cases x; intro v hv; cases hv
  | k :: ks, _, n, s, x => by
    cases x with
    | cons x1 x2 =>
      intro v hv Q q
      rcases List.mem_cons.mp hv with rfl | hv
      · exact hbv k _ n s Q x1 q
      · exact hbvs ks _ n s x2 v hv Q q
end
/-- a member: a tuple at an address, with its key -/
abbrev Mem := Addr × NestedKey
def Elt (h : Heap) (p : Mem) : Prop := NestedIs h p.2 (.ref p.1) ∧ p.2.depth ≤ 8
theorem seen_no {x : Mem} (hx : Elt s.heap x) {ys : List Value} (hy : ∀ y ∈ ys, ∃ p : Mem, y = .ref p.1 ∧ Elt s.heap p) {Q : Bool → Shared → Prop} (q : Q false s) : wpAny (model P w) A (searchCouldBeSeen (.ref x.1) ys) Q E s := by
  unfold searchCouldBeSeen
  refine wpAny_bind (wpAny_forIn_list _ (fun left r s' => r.1 = none ∧ s' = s ∧ ∀ y ∈ left, ∃ p : Mem, y = .ref p.1 ∧ Elt s.heap p) _ ?_ ?_ _ _ ⟨rfl, rfl, hy⟩)
  · rintro v left r s' ⟨hr, rfl, all⟩
    obtain ⟨p, rfl, hp⟩ := all v List.mem_cons_self
    have go : (none : Option Bool) = none ∧ s' = s' ∧ ∀ y ∈ left, ∃ p : Mem, y = .ref p.1 ∧ Elt s'.heap p := ⟨rfl, rfl, fun u hu => all u (List.mem_cons_of_mem _ hu)⟩
    dsimp only
    by_cases hv : (x.1 == p.1 || (carriedByValue (.ref x.1) && carriedByValue (.ref p.1))) = true
    · exact wp_if_pos hv (wpAny_pure go)
    · refine wp_if_neg hv (wpAny_bind (quiet_key x.2 _ 8 s' hx.1 hx.2 A E _ ?_)); simp only [Bool.not_true, Bool.false_eq_true, if_false]
      refine wpAny_bind (quiet_key p.2 _ 8 s' hp.1 hp.2 A E _ ?_); simp only [Bool.not_true, Bool.false_eq_true, if_false]
      refine wpAny_bind (cls_no x.2 _ 8 s' _ hx.1 hx.2 ?_); simp only [Bool.false_eq_true, if_false]
      refine wpAny_bind (cls_no p.2 _ 8 s' _ hp.1 hp.2 ?_); simp only [Bool.false_eq_true, if_false]
      exact wpAny_pure go
  · rintro ⟨r1, r2⟩ s' ⟨hr, rfl, _⟩
    simp only at hr; subst hr
    exact wpAny_pure q

/-! ### the set -/
def rws (w : World) (L : List Mem) : List (Int × Value) := L.map fun p => (p.2.hash w, Value.ref p.1)
abbrev hss (w : World) (L : List Mem) : List Int := L.map fun p => p.2.hash w
structure TS0 (w : World) (h : Heap) (a : Addr) (L : List Mem) (es : Array (Int × Value)) (ep : Nat) (t : SetTable) : Prop where
  ob : ∃ o, h.get? a = some o ∧ o.ExactSet ∧ o.data = .set es ep t
  rows : es.toList = rws w L
  tab : TabOk t (hss w L)
  nd : (L.map (·.2)).Nodup
  led : w.params.followText "set-order" = true ∨ t.led = true
  room : L.length * 5 < t.mask * 3
  few : L.length < 64
variable {a : Addr} {L : List Mem} {es : Array (Int × Value)} {ep : Nat} {t : SetTable}
theorem rws_len {es : Array (Int × Value)} {L : List Mem} (h : es.toList = rws w L) : es.size = L.length := by
  have := congrArg List.length h
  simpa [rws] using this
theorem fits_of {es : Array (Int × Value)} {t : SetTable} (h1 : t.place.size = es.size) (h2 : t.dummies = #[]) (h3 : es.size ≤ t.mask) : t.fits es.size = true := by
  unfold SetTable.fits SetTable.fill
  rw [h2, Bool.and_eq_true, beq_iff_eq, decide_eq_true_eq]
  exact ⟨h1, by show t.place.size + 0 ≤ t.mask; omega⟩
theorem TS0.fits {h : Heap} (R : TS0 w h a L es ep t) : t.fits es.size = true := by
  have h1 := R.tab.sz
  have h2 := rws_len R.rows
  have h3 := R.room
  simp only [List.length_map] at h1
  exact fits_of (by omega) R.tab.dm (by omega)
theorem TS0.entry {h : Heap} (R : TS0 w h a L es ep t) {i : Nat} {p : Mem} (e : L[i]? = some p) : es[i]? = some (p.2.hash w, Value.ref p.1) := by
  rw [← Array.getElem?_toList, R.rows, rws, List.getElem?_map, e]; rfl
abbrev nt (t : SetTable) (h : Int) (c : Nat) : SetTable.Probe := nth t.mask (runAt t.mask (SetTable.bits h % (t.mask + 1)) (SetTable.bits h)) c
theorem nt_add (t : SetTable) (h : Int) (c q : Nat) : nth t.mask (nt t h c) q = nt t h (c + q) := (nth_add t.mask c _ q).symm
theorem nt_dm (t : SetTable) (h : Int) (c : Nat) : (nt t h c).dummy = none := by
  have key : ∀ (n : Nat) (p : SetTable.Probe), p.dummy = none → (nth t.mask p n).dummy = none := by
    intro n
    induction n with
    | zero => exact fun p h => h
    | succ n ih => exact fun p h => ih (adv t.mask p) (by unfold adv; split <;> exact h)
  exact key c _ rfl
theorem probe_at {t : SetTable} {L : List Mem} {es : Array (Int × Value)} {ep : Nat} {a : Addr} {h : Heap} (R : TS0 w h a L es ep t) {k : NestedKey} {K c : Nat} (hf : K < 10 * SetTable.turns t.mask) (hK : way t.mask (k.hash w) K ∉ t.place.toList) (hb : ∀ c, c < K → way t.mask (k.hash w) c ∈ t.place.toList) (hc : c ≤ K) :
    (∃ q i p, c + q < K ∧ L[i]? = some p ∧ t.place.toList[i]? = some (way t.mask (k.hash w) (c + q)) ∧ (∀ (j : Nat) (r : Mem) c', L[j]? = some r → r.2 = k → c ≤ c' → c' < c + q → t.place.toList[j]? ≠ some (way t.mask (k.hash w) c')) ∧
      t.probe (fun i => (es[i]?.map (·.1)).getD 0) (k.hash w) (nt t (k.hash w) c) = some (.candidate (way t.mask (k.hash w) (c + q)) i (nt t (k.hash w) (c + (q + 1))))) ∨
    ((∀ (j : Nat) (r : Mem) c', L[j]? = some r → r.2 = k → c ≤ c' → c' < K → t.place.toList[j]? ≠ some (way t.mask (k.hash w) c')) ∧ t.probe (fun i => (es[i]?.map (·.1)).getD 0) (k.hash w) (nt t (k.hash w) c) = some (.empty (way t.mask (k.hash w) K) none)) := by
  have w1 : ∀ q, (nth t.mask (nt t (k.hash w) c) q).j = way t.mask (k.hash w) (c + q) := fun q => congrArg SetTable.Probe.j (nt_add t _ c q)
  have hh : ∀ (i : Nat) (p : Mem), L[i]? = some p → (es[i]?.map (·.1)).getD 0 = p.2.hash w := fun i p e => by rw [R.entry e]; rfl
  rcases go_spec t R.tab.ris R.tab.dm (fun i => (es[i]?.map (·.1)).getD 0) (k.hash w) (10 * SetTable.turns t.mask) (K - c) (nt t (k.hash w) c) (nt_dm t _ c) (by omega)
    (fun q hq => by rw [w1]; exact hb _ (by omega)) (by rw [w1, show c + (K - c) = K by omega]; exact hK) with ⟨q, i, b1, b2, b3, b4, b5⟩ | ⟨b1, b2⟩
  · refine .inl ⟨q, i, ?_⟩
    have hi : i < L.length := by
      have h1 := (List.getElem?_eq_some_iff.mp b2).1
      have h2 := R.tab.sz
      simp only [List.length_map] at h2
      rw [Array.length_toList] at h1; omega
    refine ⟨L[i], by omega, List.getElem?_eq_getElem hi, by rw [← w1]; exact b2, fun j r c' e1 e2 z1 z2 e3 => ?_, ?_⟩
    · exact b4 (c' - c) j (by omega) (by rw [w1, show c + (c' - c) = c' by omega]; exact e3) (by rw [hh j r e1, e2])
    · have e := b5; rw [w1, nt_add] at e; exact e
  · refine .inr ⟨fun j r c' e1 e2 z1 z2 e3 => ?_, ?_⟩
    · exact b1 (c' - c) j (by omega) (by rw [w1, show c + (c' - c) = c' by omega]; exact e3) (by rw [hh j r e1, e2])
    · have e := b2; rw [w1, show c + (K - c) = K by omega] at e; exact e
theorem search_go (R : TS0 w s.heap a L es ep t) (hL : ∀ p ∈ L, Elt s.heap p) {x : Mem} (hx : Elt s.heap x) (hu : A.units + 8 < cLine) {K : Nat} (hKf : K < 10 * SetTable.turns t.mask)
    (hK : way t.mask (x.2.hash w) K ∉ t.place.toList) (hb : ∀ c, c < K → way t.mask (x.2.hash w) c ∈ t.place.toList) {Q : SetFound → Shared → Prop}
    (yes : x.2 ∈ L.map (·.2) → Q (.there none) s) (no : x.2 ∉ L.map (·.2) → Q (.free (way t.mask (x.2.hash w) K) false) s) :
    ∀ (f c : Nat) (stand : Option SetTable.Probe), stand.getD (t.probeStart (x.2.hash w)) = nt t (x.2.hash w) c → c ≤ K → K - c < f →
      (∀ (i : Nat) (p : Mem), L[i]? = some p → p.2 = x.2 → ∃ c', c ≤ c' ∧ c' < K ∧ t.place.toList[i]? = some (way t.mask (x.2.hash w) c')) →
      wpAny (model P w) A (setSearchFrom a (.ref x.1) (x.2.hash w) true f stand) Q E s
  | 0, _, _, _, _, hf, _ => absurd hf (Nat.not_lt_zero _)
  | f + 1, c, stand, hst, hc, hf, re => by
    obtain ⟨o, ho, hex, hd⟩ := R.ob
    have gw : ¬ t.gaveWay = true := by unfold SetTable.gaveWay; rw [mask_odd R.tab.mok]; decide
    rw [setSearchFrom_succ]
    refine wpAny_bind (wpAny_setState_of ho hd R.fits ?_); dsimp only
    refine wp_if_neg gw ?_
    try refine wpAny_bind (wpAny_pure ?_)
    rw [hst]
    rcases probe_at R hKf hK hb hc with ⟨q, i, p, g1, g2, g3, g4, g5⟩ | ⟨g1, g2⟩
    · rw [g5]; dsimp only
      have pm : p ∈ L := List.mem_of_getElem? g2
      have hp := hL p pm
      have go : wpAny (model P w) A (searchRest a (.ref x.1) (x.2.hash w) true f es t (way t.mask (x.2.hash w) (c + q)) i (nt t (x.2.hash w) (c + (q + 1)))) Q E s := by
        unfold searchRest
        rw [R.entry g2]; dsimp only
        refine wpAny_bind (wpAny_holding (eqAt_key p.2 x.2 A s _ _ hp.1 hx.1 (by have := hp.2; omega) _ _ _ _ ?_))
        refine wpAny_bind (wpAny_setState_of ho hd R.fits ?_); dsimp only
        rw [← NestedKey.decide_eq]
        by_cases e : p.2 = x.2
        · refine wp_if_pos (by simp [e]) (wpAny_pure (yes ?_))
          exact List.mem_map.mpr ⟨p, pm, e⟩
        · refine wp_if_neg (by simp [e]) ?_
          try refine wpAny_bind (wpAny_pure ?_)
          rw [sameMem]; dsimp only
          have sl : t.slot (way t.mask (x.2.hash w) (c + q)) = .live i := slot_live R.tab.ris g3
          simp only [if_true, sl, R.entry g2]
          refine wpAny_bind (wpAny_isSame_ref_self (wpAny_bind (wpAny_pure ?_))); simp only [if_true]
          refine wp_if_neg (by simp [e]) ?_
          refine search_go R hL hx hu hKf hK hb yes no f (c + (q + 1)) _ rfl (by omega) (by omega) fun i0 p0 e0 k0 => ?_
          obtain ⟨c', z1, z2, z3⟩ := re i0 p0 e0 k0
          refine ⟨c', Nat.le_of_not_lt fun hle => ?_, z2, z3⟩
          rcases Nat.lt_or_eq_of_le (show c' ≤ c + q from Nat.le_of_lt_succ hle) with hlt | ec
          · exact g4 i0 p0 c' e0 k0 z1 hlt z3
          · rw [ec] at z3
            have s0 := slot_live R.tab.ris z3
            rw [sl] at s0
            injection s0 with s0
            rw [← s0, g2] at e0; cases e0; exact e k0
      by_cases hl : t.led = true
      · refine wp_if_neg (by simp [hl]) ?_
        try refine wpAny_bind (wpAny_pure ?_)
        exact go
      · refine wp_if_pos (by simp [hl]) (wpAny_bind (seen_no hx (fun y hy => ?_) ?_))
        · obtain ⟨e, he, rfl⟩ := List.mem_map.mp hy
          have he1 : e ∈ es ∧ e.1 = x.2.hash w := by simpa using he
          have he2 : e ∈ es.toList := by simpa using he1.1
          rw [R.rows, rws] at he2
          obtain ⟨r, hr, rfl⟩ := List.mem_map.mp he2
          exact ⟨r, rfl, hL r hr⟩
        · refine wp_if_neg (by decide) ?_
          try refine wpAny_bind (wpAny_pure ?_)
          exact go
    · rw [g2]; dsimp only
      refine wpAny_pure (no fun hm => ?_)
      obtain ⟨p0, h0, k0⟩ := List.mem_map.mp hm
      obtain ⟨i0, e0⟩ := List.mem_iff_getElem?.mp h0
      obtain ⟨c', z1, z2, z3⟩ := re i0 p0 e0 k0
      exact g1 i0 p0 c' e0 k0 z1 z2 z3
theorem search_all (R : TS0 w s.heap a L es ep t) (hL : ∀ p ∈ L, Elt s.heap p) {x : Mem} (hx : Elt s.heap x) (hu : A.units + 8 < cLine) {Q : SetFound → Shared → Prop} (yes : x.2 ∈ L.map (·.2) → Q (.there none) s)
    (no : ∀ K, x.2 ∉ L.map (·.2) → way t.mask (x.2.hash w) K ∉ t.place.toList → (∀ c, c < K → way t.mask (x.2.hash w) c ∈ t.place.toList) → Q (.free (way t.mask (x.2.hash w) K) false) s) :
    wpAny (model P w) A (setSearch a (.ref x.1) (x.2.hash w) true) Q E s := by
  have room := R.room
  obtain ⟨K, k1, k2, k3⟩ := R.tab.first (by rw [List.length_map]; omega) (x.2.hash w)
  have big : K < 100000 := by
    have : 10 * SetTable.turns t.mask ≤ 1420 := by unfold SetTable.turns; rcases R.tab.mok with e | e | e <;> omega
    omega
  unfold setSearch
  refine search_go R hL hx hu k1 k2 k3 yes (fun z => no K z k2 k3) 100000 0 none rfl (Nat.zero_le _) (by omega) fun i p e k => ?_
  have hi : (hss w L)[i]? = some (x.2.hash w) := by rw [List.getElem?_map, e, ← k]; rfl
  have hil : i < t.place.toList.length := by
    have h1 := (List.getElem?_eq_some_iff.mp e).1
    have h2 := R.tab.sz
    simp only [List.length_map] at h2
    rw [Array.length_toList]; omega
  obtain ⟨c, hc, z⟩ := R.tab.before k2 hi (List.getElem?_eq_getElem hil)
  exact ⟨c, Nat.zero_le _, hc, by rw [List.getElem?_eq_getElem hil, z]⟩
end
end MiS
/-! MiSetB: a tuple is put into a set; the table is laid anew when it is too full. -/
namespace MiS
open PySem PySem.Spec PyProof.Rows L2

section
variable {P : Program} {w : World} {A : Around} {E : Value → Shared → Prop} {s : Shared}
theorem elt_at {h h' : Heap} {p : Mem} (x : Elt h p) (k : ∀ a o vs n, h.get? a = some o → o.data = .seq vs n → h'.get? a = some o) : Elt h' p := ⟨NestedIs.at k _ _ x.1, x.2⟩
theorem elt_keep {h h' : Heap} {p : Mem} (x : Elt h p) (k : ∀ a o, h.get? a = some o → h'.get? a = some o) : Elt h' p := elt_at x fun a o _ _ e _ => k a o e
theorem elt_but {h h' : Heap} {p : Mem} {a : Addr} {o : Obj} {es : Array (Int × Value)} {ep : Nat} {t : SetTable} (x : Elt h p) (ho : h.get? a = some o) (hd : o.data = .set es ep t) (sb : Heap.SameBut a h h') : Elt h' p :=
  elt_at x fun b ob vs n e d => by
    refine (sb.2 b fun z => ?_).trans e
    subst z; rw [ho] at e; cases e; rw [hd] at d; cases d
theorem ins_perm {α : Type} (L : List α) (p : Nat) (x : α) : (L.take p ++ x :: L.drop p).Perm (x :: L) := by
  have h : (L.take p ++ x :: L.drop p).Perm (x :: (L.take p ++ L.drop p)) := List.perm_middle
  rwa [List.take_append_drop] at h
theorem rws_ins (L : List Mem) (p : Nat) (x : Mem) : rws w (L.take p ++ x :: L.drop p) = (rws w L).take p ++ (x.2.hash w, Value.ref x.1) :: (rws w L).drop p := by
  simp only [rws, List.map_append, List.map_cons, List.map_take, List.map_drop]
/-- the rows in another order -/
theorem rws_order {L : List Mem} {es : Array (Int × Value)} {order : Array Nat} (hr : es.toList = rws w L) (hp : order.toList.Perm (List.range L.length)) :
    ∃ L2 : List Mem, (order.filterMap (es[·]?)).toList = rws w L2 ∧ L2.Perm L ∧ hss w L2 = order.toList.map fun i => (es.map (·.1)).getD i 0 := by
  have hsz : es.size = L.length := rws_len hr
  have ent : ∀ i (h : i < L.length), es[i]? = some ((L[i]).2.hash w, Value.ref (L[i]).1) := fun i h => by
    rw [← Array.getElem?_toList, hr, rws, List.getElem?_map, List.getElem?_eq_getElem h]; rfl
  have key : ∀ l : List Nat, (∀ i ∈ l, i < L.length) → l.filterMap (fun i => es[i]?) = rws w (l.filterMap fun i => L[i]?) ∧ (hss w (l.filterMap fun i => L[i]?) = l.map fun i => (es.map (·.1)).getD i 0) := by
    intro l
    induction l with
    | nil => exact fun _ => ⟨rfl, rfl⟩
    | cons i l ih =>
      intro hl
      have hi := hl i List.mem_cons_self
      obtain ⟨e1, e2⟩ := ih fun j hj => hl j (List.mem_cons_of_mem _ hj)
      have g : (fun i => L[i]?) i = some L[i] := List.getElem?_eq_getElem hi
      rw [List.filterMap_cons_some g, List.filterMap_cons_some (ent i hi), e1, List.map_cons]
      refine ⟨rfl, ?_⟩
      show (L[i]).2.hash w :: hss w (l.filterMap fun i => L[i]?) = _
      rw [e2]
      have e5 : (es.map (·.1))[i]? = some ((L[i]).2.hash w) := by rw [Array.getElem?_map, ent i hi]; rfl
      simp [Array.getD_eq_getD_getElem?, e5]
  obtain ⟨e1, e2⟩ := key order.toList fun i hi => List.mem_range.mp (hp.mem_iff.mp hi)
  have all : (List.range L.length).filterMap (fun i => L[i]?) = L := by
    have : ∀ n, n ≤ L.length → (List.range n).filterMap (fun i => L[i]?) = L.take n := by
      intro n
      induction n with
      | zero => intro _; rfl
      | succ n ih =>
        intro hn
        have g : (fun i => L[i]?) n = some L[n] := List.getElem?_eq_getElem hn
        rw [List.range_succ, List.filterMap_append, ih (Nat.le_of_lt hn), List.take_succ, List.getElem?_eq_getElem hn, List.filterMap_cons_some g]; rfl
    rw [this L.length (Nat.le_refl _), List.take_length]
  have pm : (order.toList.filterMap fun i => L[i]?).Perm L := by
    have := hp.filterMap fun i => L[i]?
    rwa [all] at this
  exact ⟨_, by first | (rw [Array.toList_filterMap]; exact e1) | simpa using e1, pm, e2⟩
variable {a : Addr} {L : List Mem} {es : Array (Int × Value)} {ep : Nat} {t : SetTable}
theorem relay_go {o : Obj} (ho : s.heap.get? a = some o) (hex : o.ExactSet) (hd : o.data = .set es ep t) (rows : es.toList = rws w L) (sz : t.place.size = es.size) (dm : t.dummies = #[]) (fl : es.size ≤ t.mask)
    (nd : (L.map (·.2)).Nodup) (ld : w.params.followText "set-order" = true ∨ t.led = true) (few : L.length < 64) {wanted M : Nat}
    (hw : SetTable.sizeAbove wanted - 1 = M) (hM : MaskOk M) (hw2 : SetTable.sizeAbove wanted ≤ 128) (room : L.length * 5 < M * 3) {Q : Unit → Shared → Prop}
    (q : ∀ h' L' es' ep' t', Heap.SameBut a s.heap h' → TS0 w h' a L' es' ep' t' → L'.Perm L → Q () { s with heap := h' }) : wpAny (model P w) A (setRelay a wanted) Q E s := by
  have hsl : es.size = L.length := rws_len rows
  obtain ⟨t', order, e, hp, T, em, el, _, ed⟩ := relaid_ok t (hs := es.map (·.1)) (wanted := wanted) hw hM (by rw [Array.size_map, hsl]; omega)
  rw [Array.size_map, hsl] at hp
  obtain ⟨L2, r1, r2, r3⟩ := rws_order rows hp
  rw [← r3] at T
  have hs2 : (order.filterMap (es[·]?)).size = es.size := by rw [rws_len r1, r2.length_eq, hsl]
  rw [setRelay_eq]
  refine wpAny_bind (wpAny_setState_of ho hd (fits_of sz dm fl) ?_); dsimp only
  refine wp_if_neg (by rw [sizeLine_eq]; omega) ?_
  try refine wpAny_bind (wpAny_pure ?_)
  rw [e]; dsimp only
  refine wpAny_bind (wp_if_neg (by rw [hs2]; simp) ?_)
  try refine wpAny_bind (wpAny_pure ?_)
  refine wpAny_pure ?_; dsimp only
  refine wpAny_storeSet_of ho hd ?_ (by rw [hs2, hsl, sizeLine_eq]; omega)
  have sb : Heap.SameBut a s.heap (s.heap.update a (Obj.putSet (order.filterMap (es[·]?)) t')) := Heap.SameBut.update ..
  exact q _ L2 _ (ep + 1) t' sb ⟨⟨_, store_at ho hd, ⟨hex.1, hex.2.1, hex.2.2⟩, rfl⟩, r1, T, (r2.map (·.2)).nodup_iff.mpr nd, by rw [el]; exact ld, by rw [r2.length_eq, em]; exact room, by rw [r2.length_eq]; exact few⟩ r2
/-- adding -/
theorem add_go (R : TS0 w s.heap a L es ep t) (hL : ∀ p ∈ L, Elt s.heap p) {x : Mem} (hx : Elt s.heap x) (hu : A.units + 8 < cLine) (few : L.length + 1 < 64) {Q : Bool → Shared → Prop}
    (q : ∀ b h' L' es' ep' t', Heap.SameBut a s.heap h' → TS0 w h' a L' es' ep' t' → (x.2 ∈ L.map (·.2) → L' = L) → (x.2 ∉ L.map (·.2) → L'.Perm (x :: L)) → Q b { s with heap := h' }) :
    wpAny (model P w) A (setAddHashed a (.ref x.1) (x.2.hash w)) Q E s := by
  obtain ⟨o, ho, hex, hd⟩ := R.ob
  have hsl := rws_len R.rows
  have hroom := R.room
  unfold setAddHashed
  refine wpAny_holding ?_
  rw [show (100000 : Nat) = 99999 + 1 from rfl, setAddHashedIn_succ]
  refine wpAny_bind (wpAny_setState_of ho hd R.fits ?_); dsimp only
  refine wp_if_neg (by simp [byScan, Value.scannable]) ?_
  try refine wpAny_bind (wpAny_pure ?_)
  refine wpAny_bind (search_all R hL hx hu (fun hm => ?_) fun K hm hK hb => ?_)
  · dsimp only
    exact wpAny_pure (q false s.heap L es ep t (Heap.SameBut.refl a s.heap) R (fun _ => rfl) fun z => absurd hm z)
  dsimp only
  refine wpAny_bind (wpAny_setState_of ho hd R.fits ?_); dsimp only
  obtain ⟨q1, q2, q3, q4, q5, q6, q7, q8, q9⟩ := R.tab.put hK hb
  generalize hpt : t.put (way t.mask (x.2.hash w) K) = pt at q1 q3 q4 q5 q6 q7 q8 q9 ⊢
  obtain ⟨t1, p⟩ := pt
  dsimp only at q1 q3 q4 q5 q6 q7 q8 q9 ⊢
  subst q1
  generalize hpp : SetTable.below t.place (way t.mask (x.2.hash w) K) = p at q2 q3 ⊢
  have hin : (SetTable.insertAt es p (x.2.hash w, Value.ref x.1)).toList = rws w (L.take p ++ x :: L.drop p) := by rw [SetTable.toList_insertAt, rws_ins, R.rows]
  have pm := ins_perm L p x
  have hlen : (L.take p ++ x :: L.drop p).length = L.length + 1 := pm.length_eq
  have hhs : hss w (L.take p ++ x :: L.drop p) = (hss w L).take p ++ x.2.hash w :: (hss w L).drop p := by simp only [List.map_append, List.map_cons, List.map_take, List.map_drop]
  rw [← hhs] at q3
  have nd1 : ((L.take p ++ x :: L.drop p).map (·.2)).Nodup := by
    refine (pm.map (·.2)).nodup_iff.mpr ?_
    rw [List.map_cons]
    exact List.nodup_cons.mpr ⟨hm, R.nd⟩
  have hes : (SetTable.insertAt es p (x.2.hash w, Value.ref x.1)).size = L.length + 1 := by rw [rws_len hin, hlen]
  generalize SetTable.insertAt es p (x.2.hash w, Value.ref x.1) = es1 at hin hes ⊢
  generalize L.take p ++ x :: L.drop p = L1 at pm hlen q3 nd1 hin
  have rest : ∀ t1' : SetTable, t1'.place = t1.place → t1'.dummies = t1.dummies → t1'.mask = t1.mask → t1'.led = t1.led → TabOk t1' (hss w L1) → t1'.fill = (hss w L).length + 1 →
      wpAny (model P w) A (storeSet a es1 t1' >>= fun _ => if (!false && t1'.tooFull) = true then (setRelay a (SetTable.grown (es.size + 1)) >>= fun _ => pure true) else pure true) Q E s := by
    intro t1' u1 u2 u3 u4 q3 u6
    refine wpAny_bind (wpAny_storeSet_of ho hd ?_ (by rw [hes, sizeLine_eq]; omega))
    have sb : Heap.SameBut a s.heap (s.heap.update a (Obj.putSet es1 t1')) := Heap.SameBut.update ..
    have ho1 := store_at (es' := es1) (t' := t1') ho hd
    generalize s.heap.update a (Obj.putSet es1 t1') = h1 at sb ho1 ⊢
    have ld1 : w.params.followText "set-order" = true ∨ t1'.led = true := by rw [u4, q5]; exact R.led
    by_cases hf : t1'.tooFull = true
    · first
        | (refine wpAny_bind ?_; refine wp_if_pos (by simp [hf]) ?_)
        | (refine wp_if_pos (by simp [hf]) ?_; refine wpAny_bind ?_)
      have full : (L.length + 1) * 5 ≥ t1'.mask * 3 := by
        have h := hf
        unfold SetTable.tooFull at h
        rwa [decide_eq_true_eq, u6, List.length_map] at h
      rw [hsl]
      have sz1 : t1'.place.size = es1.size := by
        have h := q3.sz
        rw [List.length_map, hlen] at h
        rw [h, hes]
      have two : (t.mask = 7 ∧ L.length = 4) ∨ (t.mask = 31 ∧ L.length = 18) := by
        rcases R.tab.mok with e | e | e
        · left; rw [u3, q4, e] at full; rw [e] at hroom; exact ⟨e, by omega⟩
        · right; rw [u3, q4, e] at full; rw [e] at hroom; exact ⟨e, by omega⟩
        · exfalso; rw [u3, q4, e] at full; omega
      have go : ∀ M, SetTable.sizeAbove (SetTable.grown (L.length + 1)) - 1 = M → MaskOk M → SetTable.sizeAbove (SetTable.grown (L.length + 1)) ≤ 128 → (L.length + 1) * 5 < M * 3 →
          wpAny (model P w) A (setRelay a (SetTable.grown (L.length + 1))) (fun _ s' => wpAny (model P w) A (pure true) Q E s') E { s with heap := h1 } := fun M c1 c2 c3 c4 =>
        relay_go (s := { s with heap := h1 }) ho1 ⟨hex.1, hex.2.1, hex.2.2⟩ rfl hin sz1 (by rw [u2]; exact u2 ▸ q3.dm) (by rw [hes, u3, q4]; rcases two with ⟨e, e2⟩ | ⟨e, e2⟩ <;> omega) nd1 ld1 (by rw [hlen]; exact few) c1 c2 c3 (by rw [hlen]; exact c4)
          fun h2 L2 es2 ep2 t2 sb2 R2 pm2 => wpAny_pure (q true h2 L2 es2 ep2 t2 (sb.trans sb2) R2 (fun z => absurd z hm) fun _ => pm2.trans pm)
      rcases two with ⟨_, e2⟩ | ⟨_, e2⟩
      · exact go 31 (by rw [e2, size_20]) (.inr (.inl rfl)) (by rw [e2, size_20]; decide) (by omega)
      · exact go 127 (by rw [e2, size_76]) (.inr (.inr rfl)) (by rw [e2, size_76]; decide) (by omega)
    · first
        | refine wp_if_neg (by simp [hf]) ?_
        | (refine wpAny_bind ?_; refine wp_if_neg (by simp [hf]) ?_; refine wpAny_pure ?_)
      refine wpAny_pure (q true h1 L1 es1 (ep + 1) t1' sb ⟨⟨_, ho1, ⟨hex.1, hex.2.1, hex.2.2⟩, rfl⟩, hin, q3, nd1, ld1, ?_, by rw [hlen]; exact few⟩ (fun z => absurd z hm) fun _ => pm)
      have h := hf
      unfold SetTable.tooFull at h
      rw [decide_eq_true_eq, u6, List.length_map] at h
      rw [hlen]; omega
  have both : ∀ b : Bool, wpAny (model P w) A (storeSet a es1 (if b = true then t1 else { t1 with plain := false }) >>= fun _ => if (!false && (if b = true then t1 else { t1 with plain := false }).tooFull) = true then (setRelay a (SetTable.grown (es.size + 1)) >>= fun _ => pure true) else pure true) Q E s := by
    intro b
    cases b with
    | true => exact rest t1 rfl rfl rfl rfl q3 q9
    | false => exact rest { t1 with plain := false } rfl rfl rfl rfl ⟨q3.ris, q3.dm, q3.sz, q3.mok, q3.bd, q3.reach⟩ q9
  by_cases hpl : t1.plain = true
  · exact wp_if_pos hpl (wpAny_bind (hbv x.2 _ 8 s _ hx.1 both))
  · exact wp_if_neg hpl (wpAny_bind (wpAny_pure (both true)))
end
end MiS
/-! MiSetC: set(xs), xs a list: whatever the members are, as long as each is put in. -/
namespace MiS
open PySem PySem.Spec PyProof.Rows L2

abbrev fresh (w : World) : Obj := { cls := .type "set", dict := none, data := .set #[] 0 (.fresh 0 0 (!w.params.followText "set-order")) }
/-- the members vs, put one by one into the set at S -/
structure Adds (P : Program) (w : World) (A : Around) (h0 : Heap) (S : Addr) (vs : List Value) (IV : Nat → Heap → Prop) : Prop where
  keep : ∀ i h h', IV i h → (∀ o, h.get? S = some o → h'.get? S = some o) → (∀ b o, h0.get? b = some o → h'.get? b = some o) → IV i h'
  step : ∀ i v (s : Shared) (Q : Bool → Shared → Prop) (E : Value → Shared → Prop), vs[i]? = some v → IV i s.heap → (∀ b o, h0.get? b = some o → s.heap.get? b = some o) →
    (∀ b h' tk, Heap.SameBut S s.heap h' → s.toks ≤ tk → IV (i + 1) h' → Q b { s with heap := h', toks := tk }) → wpAny (model P w) A (setAdd S v) Q E s
section
variable {P : Program} {w : World} {A : Around} {E : Value → Shared → Prop} {s : Shared}
theorem adds_loop {I : Addr} {fp wr : List Addr} {G : Array GenState → Array GenState → Prop} {n : Nat} {Pv : Nat → Value → Prop} {St : Nat → Shared → Prop} {R : Result → Shared → Prop} {h0 : Heap} {S : Addr} {vs : List Value} {IV : Nat → Heap → Prop}
    (W : WalksS P w A.in1 I fp wr G n Pv St) (D : Adds P w A.in1 h0 S vs IV) (hSf : S ∉ fp) (hval : ∀ i v, Pv i v → vs[i]? = some v) (hS0 : h0.get? S = none) (hw0 : ∀ b ∈ wr, h0.get? b = none) :
    ∀ (k i : Nat) (s : Shared), n - i = k → i ≤ n → St i s → (∀ b o, h0.get? b = some o → s.heap.get? b = some o) → IV i s.heap →
      (∀ s', Moved (S :: wr) G s s' → IV n s'.heap → (∀ b o, h0.get? b = some o → s'.heap.get? b = some o) → R (.ok (.ret .none)) s') →
      codeAny (model P w) A (.builtin "set.update.loop" ⟨[.ref S, .ref I], []⟩) R s := by
  have hSw : S ∉ wr := fun h => hSf (W.sub _ h)
  have hsub : ∀ b ∈ wr, b ∈ S :: wr := fun b hb => List.mem_cons_of_mem _ hb
  have kM : ∀ {s s' : Shared}, Moved wr G s s' → (∀ b o, h0.get? b = some o → s.heap.get? b = some o) → ∀ b o, h0.get? b = some o → s'.heap.get? b = some o := fun hm k b o e =>
    hm.heap b o (fun hb => by rw [hw0 b hb] at e; cases e) (k b o e)
  intro k
  induction k with
  | zero =>
    intro i s hk hi hst kp hV hR
    obtain rfl : i = n := by omega
    refine codeAny_builtin F.entry_set_update_loop ?_; rw [Around.under_plainId F.plain_set_update_loop _]
    show wpAny _ A.in1 (pyNext (.ref I) >>= _) _ _ s
    refine wpAny_bind (W.done s _ _ hst fun s' hm => ?_)
    show wpAny _ A.in1 (ret Value.none) _ _ s'
    exact wpAny_pure (hR s' (hm.mono hsub) (D.keep _ _ _ hV (fun o e => hm.heap S o hSw e) (kM hm kp)) (kM hm kp))
  | succ k ih =>
    intro i s hk hi hst kp hV hR
    have hlt : i < n := by omega
    refine codeAny_builtin F.entry_set_update_loop ?_; rw [Around.under_plainId F.plain_set_update_loop _]
    show wpAny _ A.in1 (pyNext (.ref I) >>= _) _ _ s
    refine wpAny_bind (W.item i s _ _ hlt hst fun v s' hP hst' hm => ?_)
    have kp' := kM hm kp
    have hV' := D.keep _ _ _ hV (fun o e => hm.heap S o hSw e) kp'
    show wpAny _ A.in1 (holding [v] (setAdd S v) >>= _) _ _ s'
    refine wpAny_bind (wpAny_holding (D.step i v s' _ _ (hval i v hP) hV' kp' fun b h' tk sb htk hV2 => ?_))
    have kp2 : ∀ b o, h0.get? b = some o → h'.get? b = some o := fun b o e => (sb.2 b (fun z => by rw [z, hS0] at e; cases e)).trans (kp' b o e)
    refine wpAny_pure ⟨plainId_quiet F.plain_set_update_loop _, ih (i + 1) _ (by omega) hlt (W.frame _ s' _ _ hst' htk fun b hb o e => ?_) kp2 hV2 fun s'' hm'' hV'' kp'' => ?_⟩
    · rw [sb.2 b (fun h : b = S => hSf (by rw [← h]; exact hb))]; exact e
    · refine hR s'' (Moved.trans W.gtrans ((hm.mono hsub).then_heap htk fun b o hb e => ?_) hm'') hV'' kp''
      rw [sb.2 b (fun h : b = S => hb (by rw [h]; exact List.mem_cons_self))]; exact e

theorem call_set_any {l : Addr} {items : Array Value} {IV : Nat → Heap → Prop} {Q : Value → Shared → Prop} (hh : A.handled = none) (hl : s.heap.IsList l items)
    (D : Adds P w A.in1.in1.in1 s.heap s.heap.objs.size items.toList IV) (h0 : ∀ h : Heap, h.get? s.heap.objs.size = some (fresh w) → (∀ b o, s.heap.get? b = some o → h.get? b = some o) → IV 0 h)
    (h : ∀ (h' : Heap) (tk : Nat), IV items.size h' → (∀ b o, s.heap.get? b = some o → h'.get? b = some o) → Q (.ref s.heap.objs.size) { s with heap := h', toks := tk }) :
    wpAny (model P w) A (call (.type "set") [.ref l]) Q E s := by
  obtain ⟨c, tl, hmro⟩ := F.called_set.mro
  have hmade := F.called_set.made; have hsub := F.called_set.sub
  refine wpAny_call (codeAny_of_tree ?_)
  show wpAny _ _ (callAny (.type "set") _) _ _ _
  refine wpAny_pure ⟨Code.quiet_builtin _ (by decide +kernel), codeAny_builtin F.entry_type_call ?_⟩; rw [Around.under_plain (weight_type_call_type "set" [.ref l] []) rfl]
  have h1 := F.called_set.notType; have h2 := F.called_set.canCreate; have hct := F.typeCall_set_1 (.ref l)
  repeat (any_goals (first | assumption | wp_step)); skip
  refine codeAny_mono (code_set_led1 (.ref l) (E := E) (Q₁ := fun obj s₁ => obj = .ref s.heap.objs.size ∧ s₁ = { s with heap := s.heap.push (fresh w) }) ⟨rfl, rfl⟩) fun r s₁ hr => ?_
  cases r with
  | error e => exact hr
  | ok fl =>
    cases fl with
    | ret obj =>
      obtain ⟨rfl, rfl⟩ := hr
      have hS : (s.heap.push (fresh w)).get? s.heap.objs.size = some (fresh w) := Heap.get?_push_size _ rfl
      have hT : Shared.TypeIs { s with heap := s.heap.push (fresh w) } (.ref s.heap.objs.size) "set" := ⟨_, hS, rfl⟩
      have hli := F.called_set.init.lookup; have hbi := F.called_set.init.bind (.ref s.heap.objs.size)
      repeat (any_goals (first | assumption | wp_step)); skip
      refine codeAny_mono (codeAny_call_builtin (R := wants (fun r s₂ => r = .none ∧ ∃ h' tk, s₂ = { s with heap := h', toks := tk } ∧ IV items.size h' ∧ (∀ b o, s.heap.get? b = some o → h'.get? b = some o)) E)
        F.called_set.init.plain F.entry_set_init (check_set_init_1 hT ?_)) fun r₂ s₂ hr₂ => ?_
      · obtain ⟨ol, hol, hcl, nl, hdl⟩ := hl
        obtain ⟨ocls, odict, odata, oslots⟩ := ol
        simp only at hcl hdl; subst hcl; subst hdl
        have hol' : (s.heap.push (fresh w)).get? l = some { cls := .type "list", dict := odict, data := .seq items nl, slots := oslots } := Heap.get?_push_of_some _ hol
        have hsls := F.sub_list_set; have hslf := F.sub_list_frozenset
        have hne : (Value.type "list" == Value.type "dict") = false := by decide
        have hl1 : (s.heap.push (fresh w)).IsList l items := ⟨_, hol', rfl, nl, rfl⟩
        unfold Builtin.«set.__init__» noKeywords Builtin.Frozenset.updateFrom
        generalize hPI : pyIter = PI
        wp_walk
        subst hPI
        refine wpAny_pyIter_list hl1 ?_
        refine wpAny_bind (wpAny_runValue ?_)
        have hlS : l < s.heap.objs.size := Heap.lt_size hol
        have hh3 : A.in1.in1.in1.handled = none := by simp [hh]
        have hz1 : (s.heap.push (fresh w)).objs.size = s.heap.objs.size + 1 := Heap.size_push ..
        have hneI : l ≠ (s.heap.push (fresh w)).objs.size := by rw [hz1]; exact Nat.ne_of_lt (Nat.lt_succ_of_lt hlS)
        have hSf : s.heap.objs.size ∉ [(s.heap.push (fresh w)).objs.size, l] := by
          rw [hz1]; simp only [List.mem_cons, List.mem_singleton, List.not_mem_nil, or_false, not_or]
          exact ⟨Nat.ne_of_lt (Nat.lt_succ_self _), Nat.ne_of_gt hlS⟩
        have none_of : ∀ b, s.heap.objs.size ≤ b → s.heap.get? b = none := fun b hb => by
          cases q : s.heap.get? b with
          | none => rfl
          | some o => exact absurd (Nat.lt_of_lt_of_le (Heap.lt_size q) hb) (Nat.lt_irrefl _)
        refine adds_loop ((Walks.list hh3 _ l hneI items).toS) D hSf (fun i v hv => by rw [Array.getElem?_toList]; exact hv) (none_of _ (Nat.le_refl _))
          (fun b hb => none_of b (by rw [List.mem_singleton.mp hb, hz1]; exact Nat.le_succ _)) (items.size - 0) 0 _ (by omega) (Nat.zero_le _)
          ⟨⟨_, Heap.get?_push_size _ rfl, rfl, rfl⟩, (hl1.push _)⟩ (fun b o e => Heap.get?_push_of_some _ (Heap.get?_push_of_some _ e)) ?hS0 ?hR
        case hS0 => exact h0 _ (Heap.get?_push_of_some _ hS) fun b o e => Heap.get?_push_of_some _ (Heap.get?_push_of_some _ e)
        case hR =>
          intro s' hm hV hkp
          obtain ⟨h', g2, d', tk', os'⟩ := s'
          have eg : g2 = s.gens := hm.gens
          have ed : d' = s.drawn := hm.drawn
          have eo : os' = s.os := hm.os
          subst eg; subst ed; subst eo
          show wpAny _ _ _ _ _ _
          refine wpAny_pure ?_
          show wpAny _ _ (ret Value.none) _ _ _
          exact wpAny_pure ⟨rfl, h', tk', rfl, hV, hkp⟩
      · cases r₂ with
        | error e => exact hr₂
        | ok fl₂ =>
          cases fl₂ with
          | ret r =>
            obtain ⟨rfl, h', tk, rfl, hV, hk'⟩ := hr₂
            repeat (any_goals (first | assumption | wp_step))
            exact h _ _ hV hk'
          | _ => exact hr₂.elim
    | _ => exact hr.elim
end
end MiS
/-! MiSort: sorted(xs) of a list of things that can be compared place by place. -/
namespace MI
open PySem L2

/-- what can be sorted -/
def okSo (ps : List PyData) : Bool := (ps.all fun p => ps.all fun q => PySem.W.alike p q) && ((ps.all fun p => match p with
  | .tuple (_ :: _) => true
  | _ => false) || ps.all fun p => match p with
  | .none => false
  | .tuple _ => false
  | _ => true)
theorem okSo_alike {ps : List PyData} (h : okSo ps = true) : PySem.W.AllAlike ps := fun p hp q hq => by
  simp only [okSo, Bool.and_eq_true, List.all_eq_true] at h
  exact h.1 p hp q hq
theorem okSo_sort {ps : List PyData} (h : okSo ps = true) : PySem.W.Sortable ps := by
  simp only [okSo, Bool.and_eq_true, Bool.or_eq_true, List.all_eq_true] at h
  rcases h.2 with g | g
  · refine .inl fun d hd => ?_
    have z := g d hd
    match d, z with
    | .tuple (x :: r), _ => exact ⟨x, r, rfl⟩
  · refine .inr fun d hd => ⟨?_, fun xs => ?_⟩
    · rintro rfl; exact absurd (g _ hd) (by simp)
    · rintro rfl; exact absurd (g _ hd) (by simp)
def sortV (xs : List V) (ps : List PyData) : List V := ((xs.zip ps).mergeSort (PySem.W.dataLe false (·.2))).map (·.1)
def rSortD (K : PySem.W.Frag) : List V → Hp → VK → Prop := fun vs H Q => ∃ (a : Addr) (xs : List V) (ps : List PyData), vs = [V.ref a] ∧ SqL K H a xs ∧ DpAll K H xs ps ∧ okSo ps = true ∧ SeqAt.shaped (.list ps) = true ∧
  ∀ p, H p = none → Q (.ref p) (upd H p (.lst (sortV xs ps)))
theorem each_vals {xs : List V} {us : List Value} (h : Vals xs us) : ∀ {ps : List PyData}, ps.length = xs.length → PySem.W.EachIs (fun (v : Value) (b : V × PyData) => RelV b.1 v) us (xs.zip ps) := by
  induction h with
  | nil => intro ps e; exact .nil
  | @cons x u xs us r _ ih =>
    intro ps e
    cases ps with
    | nil => cases e
    | cons p ps => exact .cons r (ih (by simpa using e))
theorem vals_each {xs : List (V × PyData)} {us : List Value} (h : PySem.W.EachIs (fun (v : Value) (b : V × PyData) => RelV b.1 v) us xs) : Vals (xs.map (·.1)) us := by
  induction h with
  | nil => exact .nil
  | cons r _ ih => exact .cons r ih
theorem dpAll_len {K : PySem.W.Frag} {H : Hp} : ∀ {xs : List V} {ps : List PyData}, DpAll K H xs ps → ps.length = xs.length
  | [], _, h => by cases h; rfl
  | x :: xs, _, h => by cases h with | cons _ t => simp [dpAll_len t]
theorem depth_all {ps : List PyData} {n : Nat} (h : PyData.depthAll ps ≤ n) : ∀ p ∈ ps, p.depth ≤ n := fun p hp => Nat.le_trans (depth_mem hp) h
section
variable {X : Cx}
theorem each_reads {pins : List (Addr × Obj)} {s : Shared} {σ : L2.St} {H : Hp} (I : Inv X pins σ H s) : ∀ {xs : List V} {us : List Value} {ps : List PyData}, Vals xs us → DpAll X.K H xs ps → PySem.W.EachIs (fun (v : Value) (b : V × PyData) => ∃ as, Reads s.heap v b.2 as) us (xs.zip ps)
  | [], _, _, r, d => by cases r; cases d; exact .nil
  | x :: xs, _, _, r, d => by
    cases r with
    | cons r1 r2 =>
      cases d with
      | cons d1 d2 => exact .cons (Dp.reads I _ x _ d1 r1) (each_reads I r2 d2)
theorem zip_snd {xs : List V} {ps : List PyData} (e : ps.length = xs.length) : (xs.zip ps).map (·.2) = ps := List.map_snd_zip (by omega)
theorem cr_sortD (hu : X.A.units + 80 < cLine) : CallR X (.builtin "sorted") (rSortD X.K) := by
  intro pins s σ H vs us Q I r h
  obtain ⟨a, xs, ps, rfl, hs, hd, ok, sh, q⟩ := h
  obtain ⟨its, rv, hl, hz⟩ := I.list hs
  obtain ⟨u, rfl, ru⟩ := vals1 r
  obtain rfl : u = Value.ref a := ru
  have el := dpAll_len hd
  have ep := zip_snd el
  have dep : PyData.depthAll ps + 1 ≤ 64 := SeqAt.depth_of_shaped sh
  refine PySem.W.sorted_data (enc := fun b : V × PyData => b.2) hl.isList (each_vals rv el) (each_reads I rv hd) (by rw [ep]; exact okSo_alike ok) (by rw [ep]; exact okSo_sort ok) (by rw [List.length_zip]; omega) (fun b hb => ?_) fun out hlen hE => ?_
  · have : b.2 ∈ ps := (List.of_mem_zip (a := b.1) (b := b.2) hb).2
    have := depth_all (n := 63) (by omega) b.2 this
    omega
  · have kp : ∀ b o, s.heap.get? b = some o → (PyProof.Rows.sortedAll s.heap its out.toArray).get? b = some o := fun b o e => PyProof.Rows.sortedAll_old e
    obtain ⟨n, hn⟩ := PyProof.Rows.sortedAll_at s.heap its out.toArray
    refine ⟨.ref (s.heap.objs.size + 1), upd H (s.heap.objs.size + 1) (.lst (sortV xs ps)), I.laid (t' := s.toks) kp (Nat.le_succ _) ⟨?_, out, n, vals_each hE, hn⟩, rfl, q _ (I.hok.fresh (Nat.le_succ _))⟩
    show (sortV xs ps).length ≤ sizeLine
    rw [sortV, List.length_map, List.length_mergeSort, List.length_zip]; omega
end

/-! ### upon values -/
def kP (d : D) : PyData := (toP d).getD .none
def sortD (ds : List D) : List D := ds.mergeSort (PySem.W.dataLe false kP)
theorem toPs_map : ∀ {ds : List D} {ps : List PyData}, toPs ds = some ps → ps = ds.map kP
  | [], _, e => by simp only [toPs, Option.some.injEq] at e; subst e; rfl
  | d :: ds, ps, e => by
    simp only [toPs] at e
    split at e
    · rename_i p qs e1 e2
      cases e
      rw [List.map_cons, ← toPs_map e2, kP, e1]; rfl
    · cases e
theorem reps_zip {H : Hp} {K : PySem.W.Frag} : ∀ {ds : List D} {xs : List V}, RepDs K H ds xs → ∀ p ∈ ds.zip xs, RepD K H p.1 p.2
  | [], _, _, p, hp => by simp at hp
  | d :: ds, _, h, p, hp => by
    simp only [RepDs] at h
    obtain ⟨v, ws, rfl, r1, r2⟩ := h
    rcases List.mem_cons.mp hp with rfl | hp
    · exact r1
    · exact reps_zip r2 p hp
theorem zip_reps {H : Hp} {K : PySem.W.Frag} : ∀ {l : List (D × V)}, (∀ p ∈ l, RepD K H p.1 p.2) → RepDs K H (l.map (·.1)) (l.map (·.2))
  | [], _ => by simp only [List.map_nil, RepDs]
  | p :: l, h => by
    simp only [List.map_cons, RepDs]
    exact ⟨_, _, rfl, h p List.mem_cons_self, zip_reps fun q hq => h q (List.mem_cons_of_mem _ hq)⟩
theorem sort_reps {H : Hp} {K : PySem.W.Frag} {ds : List D} {xs : List V} (h : RepDs K H ds xs) : RepDs K H (sortD ds) (sortV xs (ds.map kP)) := by
  have hl := RepDs_len h
  have e1 : sortD ds = ((ds.zip xs).mergeSort (PySem.W.dataLe false fun p : D × V => kP p.1)).map (·.1) := by
    rw [PySem.W.sort_maps (r := PySem.W.dataLe false fun p : D × V => kP p.1) (s := PySem.W.dataLe false kP) (fun p : D × V => p.1) (l := ds.zip xs) fun a _ b _ => rfl, List.map_fst_zip (by omega)]; rfl
  have e2 : sortV xs (ds.map kP) = ((ds.zip xs).mergeSort (PySem.W.dataLe false fun p : D × V => kP p.1)).map (·.2) := by
    have : (ds.zip xs).map (fun p => (p.2, kP p.1)) = xs.zip (ds.map kP) := by
      clear h e1
      induction ds generalizing xs with
      | nil => cases xs <;> simp
      | cons d ds ih => cases xs with
        | nil => simp
        | cons x xs => simp only [List.zip_cons_cons, List.map_cons]; rw [ih (by simpa using hl)]
    rw [sortV, ← this, ← PySem.W.sort_maps (r := PySem.W.dataLe false fun p : D × V => kP p.1) (s := PySem.W.dataLe false fun b : V × PyData => b.2) (fun p : D × V => (p.2, kP p.1)) (l := ds.zip xs) fun a _ b _ => rfl, List.map_map]; rfl
  rw [e1, e2]
  exact zip_reps fun p hp => reps_zip h p (List.mem_mergeSort.mp hp)
def fSorted : List O → Option O
  | [o] => match lsqO o with
    | some ds => match toPs ds with
      | some ps => if okSo ps && SeqAt.shaped (.list ps) then some (.l ((sortD ds).map .s)) else none
      | none => none
    | none => none
  | _ => none
theorem ok_sorted {K : PySem.W.Frag} : OpOkN K fSorted (rSortD K) := fun T H t as o vs Q L h e k => by
  unfold fSorted at e
  split at e
  · rename_i a
    obtain ⟨v, rfl, ha⟩ := reps1 h
    split at e
    · rename_i ds q1
      split at e
      · rename_i ps q2
        split at e
        · rename_i q3
          cases e
          simp only [Bool.and_eq_true] at q3
          obtain ⟨p, xs, rfl, hq, r⟩ := is_lsq ha q1
          have rA : RepDs K H ds xs := RepDs_mono (fun b o e => (S_some.mp e).2) ds xs r
          refine ⟨p, xs, ps, rfl, hq, toPs_dp ds xs ps rA q2, q3.1, q3.2, fun p' hp => ?_⟩
          rw [toPs_map q2]
          obtain ⟨g, l, z⟩ := out_lst (t := t) hp L (sort_reps r)
          exact k _ _ _ g l z
        · cases e
      · cases e
    · cases e
  · cases e
end MI
/-! MiSetD: sorted(set(xs)) of tuples, len(set(xs)) of texts: as rules of the layer. -/
namespace MiS
open PySem PySem.Spec PyProof.Rows L2

/-- each thing once, where it stood first -/
def uq {α : Type} [DecidableEq α] (l : List α) : List α := l.foldl (fun acc x => if x ∈ acc then acc else acc ++ [x]) []
theorem uq_snoc {α : Type} [DecidableEq α] (l : List α) (x : α) : uq (l ++ [x]) = if x ∈ uq l then uq l else uq l ++ [x] := by unfold uq; rw [List.foldl_append]; rfl
theorem uq_nil {α : Type} [DecidableEq α] : uq ([] : List α) = [] := rfl
theorem snoc_ind {α : Type} {p : List α → Prop} (h0 : p []) (h1 : ∀ l x, p l → p (l ++ [x])) : ∀ l, p l := fun l => by
  have : ∀ r : List α, p r.reverse := fun r => by
    induction r with
    | nil => exact h0
    | cons x r ih => rw [List.reverse_cons]; exact h1 _ _ ih
  simpa using this l.reverse
theorem uq_mem {α : Type} [DecidableEq α] (l : List α) (y : α) : y ∈ uq l ↔ y ∈ l := by
  refine snoc_ind (p := fun l => y ∈ uq l ↔ y ∈ l) (by simp [uq_nil]) (fun l x ih => ?_) l
  rw [uq_snoc]
  split
  · rename_i h
    rw [ih, List.mem_append, List.mem_singleton]
    refine ⟨.inl, fun z => z.elim id fun e => ?_⟩
    subst e; exact ih.mp h
  · rw [List.mem_append, List.mem_append, ih]
theorem uq_nodup {α : Type} [DecidableEq α] (l : List α) : (uq l).Nodup := by
  refine snoc_ind (p := fun l => (uq l).Nodup) List.nodup_nil (fun l x ih => ?_) l
  rw [uq_snoc]
  split
  · exact ih
  · rename_i h
    refine List.nodup_append.mpr ⟨ih, by simp, fun a ha b hb e => ?_⟩
    rw [List.mem_singleton] at hb
    subst hb; subst e; exact h ha
theorem uq_len {α : Type} [DecidableEq α] (l : List α) : (uq l).length ≤ l.length := by
  refine snoc_ind (p := fun l => (uq l).length ≤ l.length) (Nat.le_refl _) (fun l x ih => ?_) l
  rw [uq_snoc]
  split <;> simp <;> omega

mutual
theorem nk_reads {h : Heap} : ∀ (k : NestedKey) (v : Value) (as : List Addr), Reads h v k.data as → NestedIs h k v
  | .none, _, _, r => by
    rw [NestedKey.data] at r
    cases r; exact .none
  | .num i, _, _, r => by
    rw [NestedKey.data] at r
    cases r; exact .int _ _
  | .text x, _, _, r => by
    rw [NestedKey.data] at r
    cases r; exact .text _ _
  | .tup ks, _, _, r => by
    rw [NestedKey.data] at r
    cases r with
    | tuple h1 h2 h3 h4 => exact .tup h1 h2 h3 (nk_readsAll ks _ _ h4)
theorem nk_readsAll {h : Heap} : ∀ (ks : List NestedKey) (vs : List Value) (as : List Addr), ReadsAll h vs (NestedKey.datas ks) as → NestedAll h ks vs
  | [], _, _, r => by
    rw [NestedKey.datas] at r
    cases r; exact .nil
  | k :: ks, _, _, r => by
    rw [NestedKey.datas] at r
    cases r with
    | cons r1 r2 => exact .cons (nk_reads k _ _ r1) (nk_readsAll ks _ _ r2)
end
section
variable {P : Program} {w : World} {A : Around} {E : Value → Shared → Prop} {s : Shared}
/-- what the set has of the first i items -/
structure Has (ks : List Mem) (i : Nat) (L : List Mem) : Prop where
  sub : ∀ p ∈ L, p ∈ ks.take i
  all : ∀ p ∈ ks.take i, p.2 ∈ L.map (·.2)
  len : L.length ≤ i
theorem take_snoc {α : Type} {l : List α} {i : Nat} {x : α} (h : l[i]? = some x) : l.take (i + 1) = l.take i ++ [x] := by rw [List.take_succ, h]; rfl
theorem Has.more {ks L L' : List Mem} {i : Nat} {x : Mem} (g : Has ks i L) (h : ks[i]? = some x) (c1 : x.2 ∈ L.map (·.2) → L' = L) (c2 : x.2 ∉ L.map (·.2) → L'.Perm (x :: L)) : Has ks (i + 1) L' := by
  have e := take_snoc h
  by_cases m : x.2 ∈ L.map (·.2)
  · rw [c1 m]
    refine ⟨fun p hp => by rw [e]; exact List.mem_append_left _ (g.sub p hp), fun p hp => ?_, Nat.le_succ_of_le g.len⟩
    rw [e] at hp
    rcases List.mem_append.mp hp with z | z
    · exact g.all p z
    · rw [List.mem_singleton.mp z]; exact m
  · have pm := c2 m
    refine ⟨fun p hp => ?_, fun p hp => ?_, ?_⟩
    · rw [e]
      rcases List.mem_cons.mp (pm.mem_iff.mp hp) with z | z
      · rw [z]; exact List.mem_append_right _ (List.mem_singleton.mpr rfl)
      · exact List.mem_append_left _ (g.sub p z)
    · rw [(pm.map (·.2)).mem_iff, List.map_cons]
      rw [e] at hp
      rcases List.mem_append.mp hp with z | z
      · exact List.mem_cons_of_mem _ (g.all p z)
      · rw [List.mem_singleton.mp z]; exact List.mem_cons_self
    · rw [pm.length_eq, List.length_cons]; exact Nat.succ_le_succ g.len
theorem TS0.keep {h h' : Heap} {a : Addr} {L : List Mem} {es : Array (Int × Value)} {ep : Nat} {t : SetTable} (R : TS0 w h a L es ep t) (k : ∀ o, h.get? a = some o → h'.get? a = some o) : TS0 w h' a L es ep t := by
  obtain ⟨o, ho, r⟩ := R.ob
  exact ⟨⟨o, k o ho, r⟩, R.rows, R.tab, R.nd, R.led, R.room, R.few⟩
theorem ts_fresh {h : Heap} {a : Addr} (ho : h.get? a = some (fresh w)) : TS0 w h a [] #[] 0 (.fresh 0 0 (!w.params.followText "set-order")) where
  ob := ⟨_, ho, ⟨rfl, rfl, rfl⟩, rfl⟩
  rows := rfl
  tab := ⟨List.Pairwise.nil, rfl, rfl, .inl rfl, fun x hx => (by cases hx), fun i h j hi => (by simp at hi)⟩
  nd := List.nodup_nil
  led := by show _ ∨ (!w.params.followText "set-order") = true; cases w.params.followText "set-order" <;> simp
  room := by show 0 * 5 < 7 * 3; decide
  few := by show 0 < 64; decide
def TIV (w : World) (S : Addr) (ks : List Mem) (i : Nat) (h : Heap) : Prop := ∃ L es ep t, TS0 w h S L es ep t ∧ Has ks i L
theorem tup_adds {h0 : Heap} {S : Addr} {ks : List Mem} (hS : h0.get? S = none) (hk : ∀ p ∈ ks, Elt h0 p) (few : ks.length < 64) (hu : A.units + 8 < cLine) : Adds P w A h0 S (ks.map fun p => Value.ref p.1) (TIV w S ks) where
  keep := fun i h h' ⟨L, es, ep, t, R, g⟩ k _ => ⟨L, es, ep, t, R.keep k, g⟩
  step := fun i v s Q E hv ⟨L, es, ep, t, R, g⟩ kp q => by
    rw [List.getElem?_map, Option.map_eq_some_iff] at hv
    obtain ⟨m, hm, rfl⟩ := hv
    have mk := List.mem_of_getElem? hm
    have hx : Elt s.heap m := elt_keep (hk m mk) kp
    unfold setAdd
    refine wpAny_holding (wpAny_bind (pyHash_key m.2 _ A s _ hx.1 (by have := hx.2; omega) ?_))
    have hi : i < ks.length := (List.getElem?_eq_some_iff.mp hm).1
    refine add_go (s := { s with toks := s.toks + m.2.draws }) R (fun p hp => elt_keep (hk p (List.mem_of_mem_take (g.sub p hp))) kp) hx hu (by have := g.len; omega) fun b h' L' es' ep' t' sb R' c1 c2 => ?_
    exact q b h' _ sb (Nat.le_add_right _ _) ⟨L', es', ep', t', R', g.more hm c1 c2⟩

/-- sorted of such a set -/
theorem sorted_ts {a : Addr} {L : List Mem} {es : Array (Int × Value)} {ep : Nat} {t : SetTable} {Q : Value → Shared → Prop} (R : TS0 w s.heap a L es ep t) (hh : A.handled = none) (hr : ∀ p ∈ L, ∃ as, Reads s.heap (.ref p.1) p.2.data as)
    (hal : PySem.W.AllAlike (L.map fun p => p.2.data)) (hk : PySem.W.Sortable (L.map fun p => p.2.data)) (hu : ∀ p ∈ L, A.units + 2 + p.2.data.depth < cLine)
    (q : ∀ s' p (c : Nat) (L' : List Mem), (∀ b o, s.heap.get? b = some o → s'.heap.get? b = some o) → s'.gens = s.gens → s'.os = s.os → s.heap.objs.size ≤ p →
      s'.heap.get? p = some (seqObj "list" (L'.map fun q => Value.ref q.1).toArray c) → L'.Perm L → L'.Pairwise (fun a b => PySem.W.dataLe false (fun m : Mem => m.2.data) a b = true) → Q (.ref p) s') :
    wpAny (model P w) A (call (.builtin "sorted") [.ref a]) Q E s := by
  obtain ⟨o, ho, hex, hd⟩ := R.ob
  have few := R.few
  have sz := rws_len R.rows
  refine Calls.call_function_entry kind_sorted plain_sorted entry_sorted (args_sorted1 _) ?_
  unfold Builtin.«sorted»
  refine wpAny_bind (m := checkCount "sorted" 1 1 _) (wpAny_pure ?_)
  refine wpAny_bind (collect_set (A := A.in1) hh ⟨o, ho, hex.1, hd⟩ R.fits (by unfold scanBound; omega) R.tab.ris R.led fun s1 vs k1 hz g1 o1 pm => ?_)
  have ees : es.toList.map (·.2) = L.map fun p => Value.ref p.1 := by rw [R.rows, rws, List.map_map]; rfl
  rw [ees] at pm
  obtain ⟨L1, p1, rfl⟩ := perm_lift (fun p : Mem => Value.ref p.1) pm L rfl
  have l1 : (L1.map fun p : Mem => Value.ref p.1).length = L.length := by rw [List.length_map, p1.length_eq]
  refine wpAny_bind (wpAny_newList ?_ (by rw [l1, sizeLine_eq]; omega))
  have hoL : (s1.heap.push (seqObj "list" (L1.map fun p : Mem => Value.ref p.1).toArray 0)).get? s1.heap.objs.size = some (seqObj "list" (L1.map fun p : Mem => Value.ref p.1).toArray 0) := Heap.get?_push_size _ rfl
  have e0 : ∀ l : List Mem, PySem.W.EachIs (fun (v : Value) (m : Mem) => v = .ref m.1) (l.map fun p => Value.ref p.1) l := fun l => by
    induction l with
    | nil => exact .nil
    | cons m l ih => exact .cons rfl ih
  have k6 : ∀ b o, s.heap.get? b = some o → (PySem.W.sortingHeap (s1.heap.push (seqObj "list" (L1.map fun p : Mem => Value.ref p.1).toArray 0)) s1.heap.objs.size (L1.map fun p : Mem => Value.ref p.1)).get? b = some o := fun b o e =>
    PySem.W.sortingHeap_old (Nat.ne_of_lt (Heap.lt_size (k1 b o e))) (Heap.get?_push_of_some _ (k1 b o e))
  have er : ∀ l : List Mem, (∀ m ∈ l, m ∈ L) → PySem.W.EachIs (fun (v : Value) (m : Mem) => ∃ as, Reads (PySem.W.sortingHeap (s1.heap.push (seqObj "list" (L1.map fun p : Mem => Value.ref p.1).toArray 0)) s1.heap.objs.size (L1.map fun p : Mem => Value.ref p.1)) v m.2.data as) (l.map fun p => Value.ref p.1) l := fun l => by
    induction l with
    | nil => exact fun _ => .nil
    | cons m l ih =>
      intro hl
      obtain ⟨as, r⟩ := hr m (hl m List.mem_cons_self)
      exact .cons ⟨as, PyProof.Rows.Reads.keeps k6 r⟩ (ih fun u hu => hl u (List.mem_cons_of_mem _ hu))
  have er1 := er L1 fun m hm => p1.mem_iff.mp hm
  have mem1 : ∀ d, d ∈ L1.map (fun p : Mem => p.2.data) → d ∈ L.map fun p => p.2.data := fun d hd => (p1.map _).mem_iff.mp hd
  have al1 : PySem.W.AllAlike (L1.map fun p => p.2.data) := fun d hd d' hd' => hal d (mem1 d hd) d' (mem1 d' hd')
  have so1 : PySem.W.Sortable (L1.map fun p => p.2.data) := hk.elim (fun g => .inl fun d hd => g d (mem1 d hd)) fun g => .inr fun d hd => g d (mem1 d hd)
  have srt := PySem.W.sortVals_data (enc := fun p : Mem => p.2.data) false (e0 L1) er1 al1
  refine wpAny_bind (wpAny_holding (wpAny_call_entry slot_list_sort ⟨_, hoL, rfl⟩ entry_list_sort (PySem.W.list_sort_vals hoL (PySem.W.SortsAt.data (PySem.W.each_map (R := fun v d => ∃ as, Reads _ v d as) (fun p : Mem => p.2.data) er1) al1 so1 (fun d hd => ?_)) (by rw [l1, sizeLine_eq]; omega) ⟨_, rfl, ?_⟩) (args_list_sort _)))
  · obtain ⟨p, hp, rfl⟩ := List.mem_map.mp (mem1 d hd)
    have := hu p hp
    exact this
  have out_eq : ∀ (vs : List Value) (l : List Mem), PySem.W.EachIs (fun (v : Value) (m : Mem) => v = .ref m.1) vs l → vs = l.map fun p => Value.ref p.1 := fun vs l h => by
    induction h with
    | nil => rfl
    | cons e _ ih => rw [List.map_cons, ← ih, e]
  rw [out_eq _ _ srt]
  obtain ⟨c, hc⟩ := sortedHeap_at (vs := L1.map fun p : Mem => Value.ref p.1) (out := ((L1.mergeSort (PySem.W.dataLe false fun p : Mem => p.2.data)).map fun p => Value.ref p.1).toArray) hoL
  refine wpAny_pure ⟨_, rfl, q _ s1.heap.objs.size c (L1.mergeSort (PySem.W.dataLe false fun p : Mem => p.2.data)) (fun b u e => ?_) g1 o1 hz hc ((List.mergeSort_perm _ _).trans p1) (PySem.W.sort_pairwise (PySem.W.sortLe_total _ false _) _)⟩
  have e' := k1 b u e
  have hlt := Heap.lt_size e'
  show (sortedHeap _ s1.heap.objs.size _ _).get? b = some u
  rw [sortedHeap_old (Nat.ne_of_lt hlt) (by rw [size_push']; exact Nat.lt_succ_of_lt hlt)]
  exact Heap.get?_push_of_some _ e'
end
section
variable {X : Cx}
def tSS (K : PySem.W.Frag) (te : TE) : TE := fun σ H Q => te σ H fun x H1 => ∃ (l : Addr) (ks : List Mem), x = V.ref l ∧ SqL K H1 l (ks.map fun p => V.ref p.1) ∧ (∀ p ∈ ks, Dp K H1 (V.ref p.1) p.2.data ∧ p.2.depth ≤ 8) ∧ ks.length < 64 ∧ MI.okSo (ks.map fun p => p.2.data) = true ∧
  (∀ p ∈ ks, p.2.data.depth ≤ 64) ∧ ∀ (L : List Mem) (p : Addr), (∀ m ∈ L, m ∈ ks) → (∀ m ∈ ks, m.2 ∈ L.map (·.2)) → (L.map (·.2)).Nodup → L.Pairwise (fun a b => PySem.W.dataLe false (fun m : Mem => m.2.data) a b = true) → H1 p = none → Q (.ref p) (upd H1 p (.lst (L.map fun m => V.ref m.1)))
theorem refs_vals : ∀ {ks : List Mem} {us : List Value}, Vals (ks.map fun p => V.ref p.1) us → us = ks.map fun p => Value.ref p.1
  | [], _, .nil => rfl
  | p :: ks, _, .cons r t => by cases r; rw [refs_vals t]; rfl
theorem vals_refs : ∀ (ks : List Mem), Vals (ks.map fun p => V.ref p.1) (ks.map fun p => Value.ref p.1)
  | [] => .nil
  | p :: ks => .cons rfl (vals_refs ks)
theorem pe_sortSet {a : Expr} {te : TE} {p p2 q pos : Pos} (hc : X.calm = true) (hu : X.A.units + 100 < cLine) (hm : X.mg "sorted" = none) (hm2 : X.mg "set" = none) (ha : PE X a te) (hg : Gl X "sorted" := by rfl) (hg2 : Gl X "set" := by rfl)
    (na : starEach [a] X.env = (false, eval a X.env) :: starEach [] X.env := by rfl) : PE X (.Call (.Name "sorted" p) [.Call (.Name "set" p2) [a] [] q] [] pos) (tSS X.K te) := by
  refine ⟨fun pins s σ H Q I h => ?_⟩
  refine Call_ (ld_blt I hg hm PyProof.Rows.boot_sorted ?_)
  refine PyProof.Rows.callWith_builtin1 (PyProof.Rows.args_cons ?_ rfl) rfl rfl
  refine Call_ (ld_blt I hg2 hm2 PyProof.Rows.boot_set ?_)
  refine PyProof.Rows.callWith_type1 (PyProof.Rows.args_cons (thn (ha.run pins s σ H _ I h) fun v s1 ⟨x, H1, I1, r1, q1⟩ => PyProof.Rows.args_nil ?_) na) na rfl
  obtain ⟨l, ks, rfl, hq, hd, few, ok, dep, q1⟩ := q1
  cases r1
  obtain ⟨its, r, pl, hz⟩ := I1.list hq
  have hits := refs_vals r
  have none_S : s1.heap.get? s1.heap.objs.size = none := by
    cases e : s1.heap.get? s1.heap.objs.size with
    | none => rfl
    | some o => exact absurd (Heap.lt_size e) (Nat.lt_irrefl _)
  have rd : ∀ m ∈ ks, ∃ as, Reads s1.heap (.ref m.1) m.2.data as := fun m hm => Dp.reads I1 _ _ _ (hd m hm).1 rfl
  have el : ∀ m ∈ ks, Elt s1.heap m := fun m hm => by
    obtain ⟨as, z⟩ := rd m hm
    exact ⟨nk_reads _ _ _ z, (hd m hm).2⟩
  refine call_set_any (IV := TIV X.w s1.heap.objs.size ks) (I1.ok.hd hc) pl.isList ?_ (fun h e _ => ⟨[], #[], 0, _, ts_fresh e, ⟨fun p hp => (by cases hp), fun p hp => (by simp at hp), Nat.le_refl _⟩⟩) fun h' tk hV hk => ?_
  · have := tup_adds (P := X.prog) (w := X.w) (A := X.A.in1.in1.in1) (ks := ks) none_S el few (by show X.A.units + 3 + 8 < _; omega)
    simpa [hits] using this
  obtain ⟨L, es, ep, t, R, g⟩ := hV
  have esz : its.toArray.size = ks.length := by rw [List.size_toArray, hits, List.length_map]
  rw [esz] at g
  have sub : ∀ m ∈ L, m ∈ ks := fun m hm => by have := g.sub m hm; rwa [List.take_length] at this
  refine PyProof.Rows.args_nil ?_
  have I2 : Inv X pins σ H1 { s1 with heap := h', toks := tk } := I1.kept hk
  have msub : ∀ d, d ∈ L.map (fun p : Mem => p.2.data) → d ∈ ks.map fun p => p.2.data := fun d hd => by
    obtain ⟨m, hm, rfl⟩ := List.mem_map.mp hd
    exact List.mem_map.mpr ⟨m, sub m hm, rfl⟩
  refine sorted_ts (s := { s1 with heap := h', toks := tk }) R (I1.ok.hd hc) (fun m hm => ?_) (fun d hd d' hd' => MI.okSo_alike ok d (msub d hd) d' (msub d' hd')) ((MI.okSo_sort ok).elim (fun z => .inl fun d hd => z d (msub d hd)) fun z => .inr fun d hd => z d (msub d hd)) (fun m hm => ?_) fun s' p c L' k g2 o hp hg' pm pw => ?_
  · obtain ⟨as, z⟩ := rd m (sub m hm)
    exact ⟨as, PyProof.Rows.Reads.keeps hk z⟩
  · have := dep m (sub m hm)
    omega
  · have lL : L'.length < 64 := by rw [pm.length_eq]; exact R.few
    have hn : H1 p = none := I2.hok.fresh hp
    have J : Inv X pins σ (upd H1 p (.lst (L'.map fun m => V.ref m.1))) { ({ s1 with heap := h', toks := tk } : Shared) with heap := s'.heap, gens := s'.gens, drawn := s'.drawn, toks := s'.toks } :=
      I2.call (ch := []) (Un.laid k hp hn) (I2.hok.laid k hp ⟨by rw [List.length_map, sizeLine_eq]; omega, _, c, vals_refs L', hg'⟩) (by rw [g2]; exact I2.bare) (fun _ z => nomatch z)
    have e : s' = { s1 with heap := s'.heap, gens := s'.gens, drawn := s'.drawn, toks := s'.toks } := by cases s'; cases s1; cases o; rfl
    rw [e]
    refine ⟨.ref p, _, J, rfl, q1 L' p (fun m hm => sub m (pm.mem_iff.mp hm)) (fun m hm => ?_) ((pm.map _).nodup_iff.mpr R.nd) pw hn⟩
    exact (pm.map _).mem_iff.mpr (g.all m (by rw [List.take_length]; exact hm))

/-! ### len(set(xs)), texts -/
def SIV (P : Program) (w : World) (S : Addr) (xs : List Str) (i : Nat) (h : Heap) : Prop := h.SetOf (strKind P w) S (fun k => decide (k ∈ xs.take i)) (uq (xs.take i)).length
theorem str_adds {P : Program} {w : World} {A : Around} {h0 : Heap} {S : Addr} {xs : List Str} {vs : List Value} (hv : ∀ (i : Nat) v, vs[i]? = some v → ∃ x t, xs[i]? = some x ∧ v = Value.str x t) (few : xs.length < 4000) : Adds P w A h0 S vs (SIV P w S xs) where
  keep := fun i h h' ⟨o, es, ep, t, ho, r⟩ k _ => ⟨o, es, ep, t, k o ho, r⟩
  step := fun i v s Q E e hV kp q => by
    obtain ⟨x, t, hx, rfl⟩ := hv i v e
    have is : (strKind P w).is x (.str x t) = true := strKind_is P w x t
    unfold setAdd
    refine wpAny_holding (wpAny_bind ((strKind P w).pyHash (k := x) is ?_))
    have hi : i < xs.length := (List.getElem?_eq_some_iff.mp hx).1
    have ul := uq_len (xs.take i)
    rw [List.length_take] at ul
    refine wpAny_setAddHashed_of (knd := strKind P w) (s := { s with toks := s.toks + 1 }) is rfl hV (by unfold scanBound; omega) fun h' sb r => ?_
    refine q _ h' _ sb (Nat.le_add_right _ _) (SetOf_congr r (fun k => ?_) ?_)
    · rw [take_snoc hx]
      by_cases a : k ∈ xs.take i <;> by_cases b : k = x <;> simp [a, b]
    · rw [take_snoc hx, uq_snoc]
      by_cases a : x ∈ xs.take i
      · rw [if_pos (by simpa using a), if_pos ((uq_mem _ _).mpr a)]
      · rw [if_neg (by simpa using a), if_neg (fun z => a ((uq_mem _ _).mp z)), List.length_append]; rfl
def tLS (K : PySem.W.Frag) (te : TE) : TE := fun σ H Q => te σ H fun x H1 => ∃ (l : Addr) (xs : List Str), x = V.ref l ∧ SqL K H1 l (xs.map V.str) ∧ xs.length < 4000 ∧ Q (.int (uq xs).length) H1
theorem pe_lenSet {a : Expr} {te : TE} {p p2 q pos : Pos} (hc : X.calm = true) (hm : X.mg "len" = none) (hm2 : X.mg "set" = none) (ha : PE X a te) (hg : Gl X "len" := by rfl) (hg2 : Gl X "set" := by rfl)
    (na : starEach [a] X.env = (false, eval a X.env) :: starEach [] X.env := by rfl) : PE X (.Call (.Name "len" p) [.Call (.Name "set" p2) [a] [] q] [] pos) (tLS X.K te) := by
  refine ⟨fun pins s σ H Q I h => ?_⟩
  refine Call_ (ld_blt I hg hm PySem.boot_len ?_)
  refine PyProof.Rows.callWith_builtin1 (PyProof.Rows.args_cons ?_ rfl) rfl rfl
  refine Call_ (ld_blt I hg2 hm2 PyProof.Rows.boot_set ?_)
  refine PyProof.Rows.callWith_type1 (PyProof.Rows.args_cons (thn (ha.run pins s σ H _ I h) fun v s1 ⟨x, H1, I1, r1, q1⟩ => PyProof.Rows.args_nil ?_) na) na rfl
  obtain ⟨l, xs, rfl, hq, few, q1⟩ := q1
  cases r1
  obtain ⟨its, r, pl, hz⟩ := I1.list hq
  have hv : ∀ (xs : List Str) (its : List Value), Vals (xs.map V.str) its → ∀ (i : Nat) v, its[i]? = some v → ∃ x t, xs[i]? = some x ∧ v = Value.str x t := by
    intro xs
    induction xs with
    | nil => intro its r i v e; cases r; simp at e
    | cons x xs ih =>
      intro its r i v e
      cases r with
      | cons r1 r2 =>
        cases i with
        | zero => obtain ⟨t, rfl⟩ := r1; simp at e; exact ⟨x, t, rfl, e.symm⟩
        | succ i => exact ih _ r2 i v (by simpa using e)
  have esz : its.toArray.size = xs.length := by rw [List.size_toArray, ← r.length, List.length_map]
  refine call_set_any (IV := SIV X.prog X.w s1.heap.objs.size xs) (I1.ok.hd hc) pl.isList (str_adds (by simpa using hv xs its r) few) (fun h e _ => ?_) fun h' tk hV hk => ?_
  · exact SetOf_congr ((setObjOf_fresh (knd := strKind X.prog X.w) (!X.w.params.followText "set-order")).setOf e (by unfold scanBound; decide)) (fun k => by simp) rfl
  rw [esz] at hV
  unfold SIV at hV
  rw [List.take_length] at hV
  obtain ⟨o, es, ep, t, ho, hex, hd, _, _, hb, hf, hn⟩ := hV
  refine PyProof.Rows.args_nil ?_
  have I2 : Inv X pins σ H1 { s1 with heap := h', toks := tk } := I1.kept hk
  have ul := uq_len xs
  refine call_len_set ho hex hd hf (by rw [hn]; omega) ⟨.int (uq xs).length, H1, I2.tok _, ⟨_, by rw [hn]⟩, q1⟩
end
end MiS
/-! MiSet: sorted(set(xs)), len(set(xs)) upon values. -/
namespace MI
open PySem L2 MiS

mutual
def ofK : NestedKey → D
  | .none => .non
  | .num i => .int i
  | .text x => .str x.cps.toList
  | .tup ks => .tup (ofKs ks)
def ofKs : List NestedKey → List D
  | [] => []
  | k :: ks => ofK k :: ofKs ks
end
mutual
def kOf : D → Option NestedKey
  | .non => some .none
  | .int i => some (.num i)
  | .str x => some (.text ⟨x.toArray⟩)
  | .tup ds => match kOfs ds with
    | some ks => some (.tup ks)
    | none => none
  | .bl _ => none
  | .lst _ => none
  | .scr _ => none
  | .ty _ => none
  | .opq _ => none
def kOfs : List D → Option (List NestedKey)
  | [] => some []
  | d :: ds => match kOf d, kOfs ds with
    | some k, some ks => some (k :: ks)
    | _, _ => none
end
mutual
theorem ofK_kOf : ∀ (d : D) (k : NestedKey), kOf d = some k → ofK k = d
  | .non, _, e => by simp only [kOf, Option.some.injEq] at e; subst e; simp only [ofK]
  | .int _, _, e => by simp only [kOf, Option.some.injEq] at e; subst e; simp only [ofK]
  | .str _, _, e => by simp only [kOf, Option.some.injEq] at e; subst e; simp only [ofK]
  | .tup ds, _, e => by
    simp only [kOf] at e
    split at e
    · rename_i ks q
      cases e
      rw [ofK, ofK_kOfs ds ks q]
    · cases e
  | .bl _, _, e => by simp [kOf] at e
  | .lst _, _, e => by simp [kOf] at e
  | .scr _, _, e => by simp [kOf] at e
  | .ty _, _, e => by simp [kOf] at e
  | .opq _, _, e => by simp [kOf] at e
theorem ofK_kOfs : ∀ (ds : List D) (ks : List NestedKey), kOfs ds = some ks → ofKs ks = ds
  | [], _, e => by simp only [kOfs, Option.some.injEq] at e; subst e; simp only [ofKs]
  | d :: ds, _, e => by
    simp only [kOfs] at e
    split at e
    · rename_i k ks q1 q2
      cases e
      rw [ofKs, ofK_kOf d k q1, ofK_kOfs ds ks q2]
    · cases e
end
mutual
theorem toP_ofK : ∀ k : NestedKey, toP (ofK k) = some k.data
  | .none => by simp only [ofK, toP, NestedKey.data]
  | .num _ => by simp only [ofK, toP, NestedKey.data]
  | .text x => by simp only [ofK, toP, NestedKey.data]
  | .tup ks => by simp only [ofK, toP, NestedKey.data, toP_ofKs ks]
theorem toP_ofKs : ∀ ks : List NestedKey, toPs (ofKs ks) = some (NestedKey.datas ks)
  | [] => by simp only [ofKs, toPs, NestedKey.datas]
  | k :: ks => by simp only [ofKs, toPs, NestedKey.datas, toP_ofK k, toP_ofKs ks]
end
mutual
theorem eqv_data : ∀ a b : NestedKey, PyData.eqv a.data b.data = NestedKey.beq a b
  | .none, b => by cases b <;> simp [NestedKey.data, PyData.eqv, NestedKey.beq]
  | .num i, b => by cases b <;> simp [NestedKey.data, PyData.eqv, NestedKey.beq]; rename_i j; by_cases e : i = j <;> simp [e]
  | .text x, b => by cases b <;> simp [NestedKey.data, PyData.eqv, NestedKey.beq]; rename_i y; by_cases e : x = y <;> simp [e]
  | .tup ks, .tup ls => by simp only [NestedKey.data, PyData.eqv, NestedKey.beq]; exact eqv_datas ks ls
  | .tup ks, .none => by simp [NestedKey.data, PyData.eqv, NestedKey.beq]
  | .tup ks, .num _ => by simp [NestedKey.data, PyData.eqv, NestedKey.beq]
  | .tup ks, .text _ => by simp [NestedKey.data, PyData.eqv, NestedKey.beq]
theorem eqv_datas : ∀ a b : List NestedKey, PyData.eqvAll (NestedKey.datas a) (NestedKey.datas b) = NestedKey.beqAll a b
  | [], [] => by simp only [NestedKey.datas, PyData.eqvAll, NestedKey.beqAll]
  | [], _ :: _ => by simp only [NestedKey.datas, PyData.eqvAll, NestedKey.beqAll]
  | _ :: _, [] => by simp only [NestedKey.datas, PyData.eqvAll, NestedKey.beqAll]
  | x :: xs, y :: ys => by simp only [NestedKey.datas, PyData.eqvAll, NestedKey.beqAll, eqv_data x y, eqv_datas xs ys]
end
abbrev leK : NestedKey → NestedKey → Bool := PySem.W.dataLe false NestedKey.data
theorem leK_anti {a b : NestedKey} (al : PySem.W.alike a.data b.data = true) (h1 : leK a b = true) (h2 : leK b a = true) : a = b := by
  have e1 : PySem.W.dataLt b.data a.data = false := by
    have : (!PySem.W.dataLt b.data a.data) = true := h1
    simpa using this
  have e2 : PySem.W.dataLt a.data b.data = false := by
    have : (!PySem.W.dataLt a.data b.data) = true := h2
    simpa using this
  have e : PySem.W.keyToks a.data = PySem.W.keyToks b.data := PyProof.Rows.lex_total _ _ e2 e1
  cases q : PyData.eqv a.data b.data with
  | true => exact NestedKey.eq_of_beq a b (by rw [← eqv_data]; exact q)
  | false =>
    have z := (PySem.W.toks_eqv a.data b.data al).2 q [] [.inl 0]
    rw [← e, PySem.W.lex_pre, PyProof.Rows.lex_irrefl] at z
    exact absurd z (by decide)
def keysS (ks : List NestedKey) : List NestedKey := (uq ks).mergeSort leK
theorem keysS_of {ks ls : List NestedKey} (al : PySem.W.AllAlike (ks.map NestedKey.data)) (nd : ls.Nodup) (h1 : ∀ k ∈ ls, k ∈ ks) (h2 : ∀ k ∈ ks, k ∈ ls) (so : ls.Pairwise fun a b => leK a b = true) : ls = keysS ks := by
  have pm : ls.Perm (keysS ks) := by
    refine (List.Perm.trans ?_ (List.mergeSort_perm _ _).symm)
    exact (List.perm_ext_iff_of_nodup nd (uq_nodup _)).mpr fun k => by rw [uq_mem]; exact ⟨h1 k, h2 k⟩
  refine List.Perm.eq_of_pairwise (le := fun a b => leK a b = true) (fun a b ha hb l1 l2 => ?_) so (PySem.W.sort_pairwise (PySem.W.sortLe_total _ false _) _) pm
  have hb' : b ∈ ks := h1 b (pm.mem_iff.mpr hb)
  exact leK_anti (al _ (List.mem_map.mpr ⟨a, h1 a ha, rfl⟩) _ (List.mem_map.mpr ⟨b, hb', rfl⟩)) l1 l2
def isTupK : NestedKey → Bool
  | .tup _ => true
  | _ => false
def fSortSet (o : O) : Option O := match lsqO o with
  | some ds => match kOfs ds with
    | some ks => if (ks.all fun k => isTupK k && decide (k.depth ≤ 8) && decide (k.data.depth ≤ 64)) && decide (ks.length < 64) && okSo (ks.map NestedKey.data) then some (.l ((keysS ks).map fun k => .s (ofK k))) else none
    | none => none
  | none => none
theorem mems_of {K : PySem.W.Frag} {H : Hp} : ∀ {ds : List D} {xs : List V} {ks : List NestedKey}, RepDs K H ds xs → kOfs ds = some ks → (∀ k ∈ ks, isTupK k = true) → ∃ ms : List Mem, xs = ms.map (fun m => V.ref m.1) ∧ ms.map (·.2) = ks ∧ ∀ m ∈ ms, RepD K H (ofK m.2) (V.ref m.1)
  | [], _, _, h, e, _ => by
    simp only [RepDs] at h
    simp only [kOfs, Option.some.injEq] at e
    subst h e
    exact ⟨[], rfl, rfl, fun m hm => by cases hm⟩
  | d :: ds, _, _, h, e, t => by
    simp only [RepDs] at h
    obtain ⟨v, ws, rfl, r1, r2⟩ := h
    simp only [kOfs] at e
    split at e
    · rename_i k ks q1 q2
      cases e
      obtain ⟨ms, e1, e2, e3⟩ := mems_of r2 q2 fun k hk => t k (List.mem_cons_of_mem _ hk)
      have tk := t k List.mem_cons_self
      have ed := ofK_kOf d k q1
      subst ed
      have : ∃ a, v = V.ref a := by
        cases k with
        | tup ks => simp only [ofK, RepD] at r1; obtain ⟨a, vs, e, _⟩ := r1; exact ⟨a, e⟩
        | _ => cases tk
      obtain ⟨a, rfl⟩ := this
      refine ⟨(a, k) :: ms, by rw [e1]; rfl, by rw [List.map_cons, e2], fun m hm => ?_⟩
      rcases List.mem_cons.mp hm with rfl | hm
      · exact r1
      · exact e3 m hm
    · cases e
theorem reps_mems {K : PySem.W.Frag} {H : Hp} : ∀ {ms : List Mem}, (∀ m ∈ ms, RepD K H (ofK m.2) (V.ref m.1)) → RepDs K H ((ms.map (·.2)).map ofK) (ms.map fun m => V.ref m.1)
  | [], _ => by simp only [List.map_nil, RepDs]
  | m :: ms, h => by
    simp only [List.map_cons, RepDs]
    exact ⟨_, _, rfl, h m List.mem_cons_self, reps_mems fun q hq => h q (List.mem_cons_of_mem _ hq)⟩
def eSortSet (m : EM Rs) : EM Rs := op1 fSortSet m
def eLenSet (m : EM Rs) : EM Rs := op1 (fun o => match lsqO o with
  | some ds => match strsOf ds with
    | some xs => if decide (xs.length < 4000) then some (.s (.int (uq xs).length)) else none
    | none => none
  | none => none) m
section
variable {X : Cx} {cx : Nat → Addr} {W : WX} {e : Expr} {me : EM Rs} {p p2 q pos : Pos}
theorem m_sortSet (hc : X.calm = true) (hu : X.A.units + 100 < cLine) (hm : X.mg "sorted" = none) (hm2 : X.mg "set" = none) (he : PE X e (tE X.K cx W me)) (hg : Gl X "sorted" := by rfl) (hg2 : Gl X "set" := by rfl)
    (na : starEach [e] X.env = (false, eval e X.env) :: starEach [] X.env := by rfl) : PE X (.Call (.Name "sorted" p) [.Call (.Name "set" p2) [e] [] q] [] pos) (tE X.K cx W (eSortSet me)) :=
  PEimp (pe_sortSet hc hu hm hm2 he hg hg2 na) fun σ H Q h => by
  obtain ⟨T, env, t, I, L, h⟩ := h
  refine ⟨T, env, t, I, L, h.bd fun r1 e1 T1 H1 F1 I1 L1 h1 v hv => ?_⟩
  try dsimp only at h1
  split at h1
  · rename_i o1 q1
    split at h1
    · rename_i o q3
      obtain ⟨rt, pp, hr⟩ := look_rep I1 hv q1
      unfold fSortSet at q3
      split at q3
      · rename_i ds q4
        split at q3
        · rename_i ks q5
          split at q3
          · rename_i q6
            cases q3
            simp only [Bool.and_eq_true, decide_eq_true_eq, List.all_eq_true] at q6
            obtain ⟨⟨g1, g2⟩, g3⟩ := q6
            obtain ⟨pa, xs, rfl, hq, r⟩ := is_lsq ⟨rt, pp, hr⟩ q4
            obtain ⟨ms, rfl, ek, er⟩ := mems_of r q5 fun k hk => (g1 k hk).1.1
            have kin : ∀ m ∈ ms, m.2 ∈ ks := fun m hm => by rw [← ek]; exact List.mem_map.mpr ⟨m, hm, rfl⟩
            have lk : ms.length = ks.length := by rw [← ek, List.length_map]
            have dk : ms.map (fun m : Mem => m.2.data) = ks.map NestedKey.data := by rw [← ek, List.map_map]; rfl
            refine ⟨pa, ms, rfl, hq, fun m hm => ⟨toP_dp _ _ _ (RepD_all (er m hm)) (toP_ofK _), (g1 _ (kin m hm)).1.2⟩, by omega, by rw [dk]; exact g3, fun m hm => (g1 _ (kin m hm)).2, fun Ls p' s1 s2 nd so hp => ?_⟩
            have eL : Ls.map (·.2) = keysS ks := by
              refine keysS_of (okSo_alike g3) nd (fun k hk => ?_) (fun k hk => ?_) (List.pairwise_map.mpr so)
              · obtain ⟨m, hm, rfl⟩ := List.mem_map.mp hk
                exact kin m (s1 m hm)
              · rw [← ek] at hk
                obtain ⟨m, hm, rfl⟩ := List.mem_map.mp hk
                exact s2 m hm
            have rr := reps_mems (K := X.K) (H := S T1 H1) (ms := Ls) fun m hm => er m (s1 m hm)
            obtain ⟨g, l, z⟩ := out_lst (t := t) hp L1 rr
            refine h1 _ _ (F1.trans g.fr) (g.ei I1) l _ ?_
            rw [eL, List.map_map] at z
            exact z
          · cases q3
        · cases q3
      · cases q3
    · exact h1.elim
  · exact h1.elim
theorem uq_map {α β : Type} [DecidableEq α] [DecidableEq β] (f : α → β) (hf : ∀ a b, f a = f b → a = b) (l : List α) : uq (l.map f) = (uq l).map f := by
  refine snoc_ind (p := fun l => uq (l.map f) = (uq l).map f) rfl (fun l x ih => ?_) l
  rw [List.map_append, List.map_cons, List.map_nil, uq_snoc, uq_snoc, ih]
  by_cases h : x ∈ uq l
  · rw [if_pos h, if_pos (List.mem_map.mpr ⟨x, h, rfl⟩)]
  · rw [if_neg h, if_neg, List.map_append]; rfl
    rintro z
    obtain ⟨y, hy, e⟩ := List.mem_map.mp z
    rw [hf y x e] at hy; exact h hy
theorem reps_strs {K : PySem.W.Frag} {H : Hp} : ∀ {xs : List (List Nat)} {vs : List V}, RepDs K H (xs.map .str) vs → vs = (xs.map fun x => (⟨x.toArray⟩ : Str)).map V.str
  | [], _, h => by simpa only [List.map_nil, RepDs] using h
  | x :: xs, _, h => by
    simp only [List.map_cons, RepDs] at h
    obtain ⟨v, ws, rfl, r1, r2⟩ := h
    simp only [RepD] at r1
    rw [r1.1, reps_strs r2]; rfl
theorem m_lenSet (hc : X.calm = true) (hm : X.mg "len" = none) (hm2 : X.mg "set" = none) (he : PE X e (tE X.K cx W me)) (hg : Gl X "len" := by rfl) (hg2 : Gl X "set" := by rfl)
    (na : starEach [e] X.env = (false, eval e X.env) :: starEach [] X.env := by rfl) : PE X (.Call (.Name "len" p) [.Call (.Name "set" p2) [e] [] q] [] pos) (tE X.K cx W (eLenSet me)) :=
  PEimp (pe_lenSet hc hm hm2 he hg hg2 na) fun σ H Q h => by
  obtain ⟨T, env, t, I, L, h⟩ := h
  refine ⟨T, env, t, I, L, h.bd fun r1 e1 T1 H1 F1 I1 L1 h1 v hv => ?_⟩
  try dsimp only at h1
  split at h1
  · rename_i o1 q1
    split at h1
    · rename_i o q3
      obtain ⟨rt, pp, hr⟩ := look_rep I1 hv q1
      split at q3
      · rename_i ds q4
        split at q3
        · rename_i xs q5
          split at q3
          · rename_i q6
            cases q3
            simp only [decide_eq_true_eq] at q6
            obtain ⟨pa, vs, rfl, hq, r⟩ := is_lsq ⟨rt, pp, hr⟩ q4
            rw [strsOf_eq q5] at r
            rw [reps_strs r] at hq
            refine ⟨pa, _, rfl, hq, by rw [List.length_map]; exact q6, ?_⟩
            rw [uq_map _ (fun a b e => by simpa using e), List.length_map]
            exact h1 _ _ F1 I1 L1 _ (by simp only [RsRep, RepO, RepD])
          · cases q3
        · cases q3
      · cases q3
    · exact h1.elim
  · exact h1.elim
end
end MI
/-! MiPl2: more rows for the plain side: comprehensions upon values, by what each element comes to. -/
namespace MI
/-- a slot that a comprehension may borrow -/
def Fre (e : Env) (k : Nat) : Prop := (e[k]?).join = none ∨ ∃ d, (e[k]?).join = some (.s d)
theorem set_same {e : Env} {k : Nat} {x : Option O} (h : (e[k]?).join = x) : e.set k x = e := by
  refine List.ext_getElem? fun j => ?_
  rw [List.getElem?_set]
  by_cases hj : k = j
  · subst hj
    rw [if_pos rfl]
    cases q : e[k]? with
    | none =>
      have : ¬ k < e.length := fun z => by rw [List.getElem?_eq_getElem z] at q; cases q
      rw [if_neg this]
    | some y =>
      obtain ⟨hlt, _⟩ := List.getElem?_eq_some_iff.mp q
      rw [q] at h
      simp only [Option.join_some] at h
      rw [if_pos hlt, h]
  · rw [if_neg hj]
theorem rest1 {e : Env} {k : Nat} (h : Fre e k) : restE e [k] (e.set k none) = e := by
  rcases h with z | ⟨d, z⟩
  · simp only [restE, z]; exact set_same z
  · simp only [restE, z, List.set_set]; exact set_same z
theorem wipe1 {e : Env} {k : Nat} {x : Option O} : wipeE (e.set k x) [k] = e.set k none := by simp only [wipeE, List.set_set]
/-- for x in .. if ..: the elements change nothing -/
theorem lcF {e e1 : Env} {k : Nat} {it : EM (List D)} {cond : EM Bool} {elt : EM Rs} {ds : List D} (f : D → Bool) (g : D → D) (hit : it e = .ok ds e1) (hk : Fre e1 k) (hl : ds.length ≤ 16777216)
    (h : ∀ d ∈ ds, cond (e1.set k (some (.s d))) = .ok (f d) (e1.set k (some (.s d))) ∧ (f d = true → ∃ r, elt (e1.set k (some (.s d))) = .ok r (e1.set k (some (.s d))) ∧ gv r (e1.set k (some (.s d))) = .ok (g d) (e1.set k (some (.s d))))) :
    eLc it (gNm k) cond elt [k] e = .ok (.v (.l (((ds.filter f).map g).map .s))) e1 := by
  have hm : lcLoop (gNm k) cond elt [k] ds (e1.set k none) = .ok ((ds.filter f).map g) (e1.set k none) := by
    refine lc_pure f g _ fun d hd => ?_
    obtain ⟨h1, h2⟩ := h d hd
    refine ⟨e1.set k (some (.s d)), e1.set k (some (.s d)), by simp only [gNm, List.set_set], h1, fun _ => wipe1, fun hf => ?_⟩
    obtain ⟨r, h3, h4⟩ := h2 hf
    exact ⟨r, _, _, h3, h4, wipe1⟩
  have := goL (own := [k]) hit (show lcLoop (gNm k) cond elt [k] ds (wipeE e1 [k]) = _ from hm) (by rw [List.length_map]; exact Nat.le_trans (List.length_filter_le _ _) hl)
  rw [rest1 hk] at this
  exact this
theorem lcM {e e1 : Env} {k : Nat} {it : EM (List D)} {elt : EM Rs} {ds : List D} (g : D → D) (hit : it e = .ok ds e1) (hk : Fre e1 k) (hl : ds.length ≤ 16777216)
    (h : ∀ d ∈ ds, ∃ r, elt (e1.set k (some (.s d))) = .ok r (e1.set k (some (.s d))) ∧ gv r (e1.set k (some (.s d))) = .ok (g d) (e1.set k (some (.s d)))) :
    eLc it (gNm k) (MI.ret true) elt [k] e = .ok (.v (.l ((ds.map g).map .s))) e1 := by
  have := lcF (cond := MI.ret true) (fun _ => true) g hit hk hl fun d hd => ⟨rfl, fun _ => h d hd⟩
  rwa [List.filter_eq_self.mpr (by simp)] at this
/-- the same, each element a value -/
theorem lcV {e e1 : Env} {k : Nat} {it : EM (List D)} {elt : EM Rs} {ds : List D} (g : D → D) (hit : it e = .ok ds e1) (hk : Fre e1 k) (hl : ds.length ≤ 16777216)
    (h : ∀ d ∈ ds, elt (e1.set k (some (.s d))) = .ok (.v (.s (g d))) (e1.set k (some (.s d)))) : eLc it (gNm k) (MI.ret true) elt [k] e = .ok (.v (.l ((ds.map g).map .s))) e1 :=
  lcM g hit hk hl fun d hd => ⟨_, h d hd, rfl⟩
/-- for a, b in .. -/
theorem lcM2 {e e1 : Env} {i j : Nat} {it : EM (List D)} {elt : EM Rs} {ds : List (D × D)} (g : D × D → D) (hit : it e = .ok (ds.map fun p => .tup [p.1, p.2]) e1) (hij : i ≠ j) (hi : Fre e1 i) (hj : Fre e1 j) (hl : ds.length ≤ 16777216)
    (h : ∀ p ∈ ds, ∃ r, elt ((e1.set i (some (.s p.1))).set j (some (.s p.2))) = .ok r ((e1.set i (some (.s p.1))).set j (some (.s p.2))) ∧ gv r ((e1.set i (some (.s p.1))).set j (some (.s p.2))) = .ok (g p) ((e1.set i (some (.s p.1))).set j (some (.s p.2)))) :
    eLc it (gTp [gNm i, gNm j]) (MI.ret true) elt [i, j] e = .ok (.v (.l ((ds.map g).map .s))) e1 := by
  have hw : wipeE e1 [i, j] = (e1.set j none).set i none := rfl
  have hm : lcLoop (gTp [gNm i, gNm j]) (MI.ret true) elt [i, j] (ds.map fun p => .tup [p.1, p.2]) ((e1.set j none).set i none) = .ok (ds.map g) ((e1.set j none).set i none) := by
    have e0 : ds.map g = ((ds.map fun p => D.tup [p.1, p.2]).filter fun _ => true).map fun d => match d with
      | .tup [a, b] => g (a, b)
      | _ => .non := by
      rw [List.filter_eq_self.mpr (by simp), List.map_map]; rfl
    rw [e0]
    refine lc_pure (fun _ => true) _ _ fun d hd => ?_
    obtain ⟨p, hp, rfl⟩ := List.mem_map.mp hd
    have hs : (((e1.set j none).set i none).set i (some (O.s p.1))).set j (some (.s p.2)) = (e1.set i (some (.s p.1))).set j (some (.s p.2)) := by
      rw [List.set_set, List.set_comm _ _ (Ne.symm hij), List.set_set]
    obtain ⟨r, h1, h2⟩ := h p hp
    refine ⟨(e1.set i (some (.s p.1))).set j (some (.s p.2)), _, by simp only [gTp, gTps, gNm, hs], rfl, by simp, fun _ => ⟨r, _, _, h1, h2, ?_⟩⟩
    show (((e1.set i _).set j _).set j none).set i none = _
    rw [List.set_set, List.set_comm _ _ hij, List.set_set]
  have := goL (own := [i, j]) (cond := MI.ret true) hit (by rw [hw]; exact hm) (by rw [List.length_map]; exact hl)
  rw [this]
  have hr : restE e1 [i, j] ((e1.set j none).set i none) = e1 := by
    have h1 : restE e1 [j] ((e1.set j none).set i none) = e1.set i none := by
      rcases hj with z | ⟨d, z⟩
      · simp only [restE, z]; rw [set_same z]
      · simp only [restE, z]; rw [List.set_comm _ _ hij, List.set_set, set_same z]
    rcases hi with z | ⟨d, z⟩
    · have : restE e1 [i, j] ((e1.set j none).set i none) = restE e1 [j] ((e1.set j none).set i none) := by simp only [restE, z]
      rw [this, h1]; exact set_same z
    · have : restE e1 [i, j] ((e1.set j none).set i none) = (restE e1 [j] ((e1.set j none).set i none)).set i (some (.s d)) := by simp only [restE, z]
      rw [this, h1, List.set_set]; exact set_same z
  rw [hr]
/-- a comprehension whose parts may change what is drawn from; t of each element is kept -/
theorem lc_invT {β : Type} {tg : Tgt} {cond : EM Bool} {elt : EM Rs} {own : List Nat} (P : Nat → Env → Prop) (t : D → β) (Q : D → Prop) : ∀ (ds : List D) (i : Nat) (e : Env), P i e →
    (∀ (j : Nat) (d : D) (e : Env), ds[j]? = some d → P (i + j) e → ∃ e1 e2 e3 r e4 x, tg d e = some e1 ∧ cond e1 = .ok true e2 ∧ elt e2 = .ok r e3 ∧ gv r e3 = .ok x e4 ∧ Q x ∧ t x = t d ∧ P (i + j + 1) (wipeE e4 own)) →
    ∃ xs e', lcLoop tg cond elt own ds e = .ok xs e' ∧ xs.map t = ds.map t ∧ (∀ x ∈ xs, Q x) ∧ P (i + ds.length) e'
  | [], i, e, h, _ => ⟨[], e, rfl, rfl, by simp, h⟩
  | d :: ds, i, e, h, st => by
    obtain ⟨e1, e2, e3, r, e4, x, h1, h2, h3, h4, hq, ht, h5⟩ := st 0 d e rfl h
    obtain ⟨xs, e', q1, q2, q3, q4⟩ := lc_invT P t Q ds (i + 1) (wipeE e4 own) h5 fun j d' e hj hp => by
      have := st (j + 1) d' e (by simpa using hj) (by rw [show i + (j + 1) = i + 1 + j by omega]; exact hp)
      rw [show i + (j + 1) + 1 = i + 1 + j + 1 by omega] at this
      exact this
    refine ⟨x :: xs, e', ?_, by rw [List.map_cons, List.map_cons, q2, ht], fun y hy => ?_, by rw [List.length_cons, show i + (ds.length + 1) = i + 1 + ds.length by omega]; exact q4⟩
    · simp only [lcLoop, h1, bd, h2, if_true, h3, h4, q1, MI.ret]
    · rcases List.mem_cons.mp hy with rfl | z
      · exact hq
      · exact q3 y z
/-- an exception leaves -/
theorem goUe {cm : List O → CR} {mask : List Bool} {ms : List (EM Rs)} {e e1 e2 e3 : Env} {rs : List Rs} {os : List O} {k : Nat} (h : evs ms e = .ok rs e1) (hp : prep mask rs e1 = .ok os e2) (hi : ∀ outs, MI.backTo (insOf mask rs) 0 outs e2 = e3) (hc : ∃ u, cm os = .ex k u) : callU cm mask ms e = .ex k e3 := by
  obtain ⟨u, hc⟩ := hc
  rw [goUx h hp hc, hi]
theorem goOrT {a b : EM Bool} {e e1 : Env} (h : a e = .ok true e1) : bOr a b e = .ok true e1 := by simp [bOr, bd, h, MI.ret]
theorem goOr {a b : EM Bool} {e e1 : Env} {x : R Bool} (h : a e = .ok false e1) (k : b e1 = x) : bOr a b e = x := by simp [bOr, bd, h, k]
theorem goAndT {a b : EM Bool} {e e1 : Env} {x : R Bool} (h : a e = .ok true e1) (k : b e1 = x) : bAnd a b e = x := by simp [bAnd, bd, h, k]
theorem goAndB {a b : EM Bool} {e e1 : Env} (h : a e = .ok false e1) : bAnd a b e = .ok false e1 := by simp [bAnd, bd, h, MI.ret]
theorem goIfT {c : EM Bool} {a b : EM Rs} {e e1 : Env} {x : R Rs} (h : c e = .ok true e1) (k : a e1 = x) : eIf c a b e = x := by simp [eIf, bd, h, k]
theorem goIfE {c : EM Bool} {a b : EM Rs} {e e1 : Env} {x : R Rs} (h : c e = .ok false e1) (k : b e1 = x) : eIf c a b e = x := by simp [eIf, bd, h, k]
theorem go1 {f : O → Option O} {a : EM Rs} {e e1 : Env} {r : Rs} {o o1 : O} (h : a e = .ok r e1) (hl : look e1 r = some o1) (hf : f o1 = some o) : op1 f a e = .ok (.v o) e1 := by simp [op1, bd, h, hl, hf]
/-- callees that are asked about shared values alone change nothing here -/
theorem lenSetE {m : EM Rs} {e e1 : Env} {r : Rs} {o : O} {ds : List D} {xs : List (List Nat)} (h : m e = .ok r e1) (hl : look e1 r = some o) (h1 : lsqO o = some ds) (h2 : strsOf ds = some xs) (h3 : xs.length < 4000) : eLenSet m e = .ok (.v (.s (.int (MiS.uq xs).length))) e1 :=
  go1 h hl (by simp only [h1, h2]; rw [if_pos (by simpa using h3)])
end MI
namespace MI
theorem goSl {f : O → Option Int → Option Int → Option O} {m : EM Rs} {ml mh : EM (Option Int)} {e e1 e2 e3 : Env} {r : Rs} {lo hi : Option Int} {o o' : O} (h : m e = .ok r e1) (h1 : ml e1 = .ok lo e2) (h2 : mh e2 = .ok hi e3) (hl : look e3 (opnd r) = some o) (hf : f o lo hi = some o') : eSl f m ml mh e = .ok (.v o') e3 := by
  simp only [eSl, bd, h, h1, h2, hl, hf]
theorem goSo {m : EM Rs} {e e1 : Env} {r : Rs} {i : Int} (h : m e = .ok r e1) (hl : look e1 r = some (.s (.int i))) : pSo m e = .ok (some i) e1 := by
  simp only [pSo, bd, h, hl]
theorem goIt {m : EM Rs} {e e1 e2 : Env} {r : Rs} {d : D} {ds : List D} (h : m e = .ok r e1) (hg : gv r e1 = .ok d e2) (hi : itemsOf d = some ds) : itV m e = .ok ds e2 := by
  simp only [itV, bd, h, hg, lift, hi]
theorem cutL_to {α : Type} (k : Nat) (w : List α) : cutL w none (some (k : Int)) = w.take k := by
  have h0 : HT.sIx w.length 0 none = 0 := rfl
  have h1 : HT.sIx w.length w.length (some (k : Int)) = min k w.length := by simp [HT.sIx]; omega
  rw [cutL, h0, h1]
  simp only [List.drop_zero, Nat.sub_zero]
  rcases Nat.le_total k w.length with h | h
  · rw [Nat.min_eq_left h]
  · rw [Nat.min_eq_right h, List.take_of_length_le h, List.take_of_length_le (Nat.le_refl _)]
theorem cutL_from {α : Type} (k : Nat) (w : List α) : cutL w (some (k : Int)) none = w.drop k := by
  have h0 : HT.sIx w.length w.length none = w.length := rfl
  have h1 : HT.sIx w.length 0 (some (k : Int)) = min k w.length := by simp [HT.sIx]; omega
  rw [cutL, h0, h1]
  rcases Nat.le_total k w.length with h | h
  · rw [Nat.min_eq_left h]; exact List.take_of_length_le (by rw [List.length_drop]; omega)
  · rw [Nat.min_eq_right h, List.drop_of_length_le h, List.drop_length]; simp
end MI
namespace MI
theorem exs {body : SM} {n : Nat} {args : List O} {k : Nat} {e : Env} (h : body (args.map some ++ List.replicate (n - args.length) none) = .ex k e) : ∃ u, fnCR body n args = .ex k u := ⟨e, by simp only [fnCR, h]⟩
end MI
namespace K02
open PySem L2 MI
def topS (i : Nat) : Stmt := PySem.Challenge.pw_overlapladders_k02_whole_books.main.body.getD i (.Pass ⟨0, 0, 0, 0⟩)
abbrev s_is_long : Stmt := topS 4
abbrev s_tupled : Stmt := topS 5
abbrev s_is_letters : Stmt := topS 8
abbrev s_is_word_in : Stmt := topS 9
abbrev s_sure_letters : Stmt := topS 10
abbrev s_key_of : Stmt := topS 11
abbrev s_is_ahead : Stmt := topS 12
abbrev s_is_rule : Stmt := topS 14
abbrev s_is_book : Stmt := topS 15
abbrev s_ordered : Stmt := topS 16
abbrev s_turned_rule : Stmt := topS 17
abbrev s_book_of : Stmt := topS 18
abbrev s_law_box : Stmt := topS 20
abbrev s_law_take : Stmt := topS 21
abbrev s_law_cells : Stmt := topS 22
abbrev s_law_of : Stmt := topS 23
abbrev s_law_pick : Stmt := topS 24
abbrev s_law_mixed : Stmt := topS 25
abbrev s_law_same : Stmt := topS 26
abbrev s_law_unmarked : Stmt := topS 27
abbrev s_law_ahead : Stmt := topS 28
abbrev s_law_ordered : Stmt := topS 29
abbrev s_law_some_word : Stmt := topS 30
abbrev s_law_heard : Stmt := topS 31
abbrev s_law_right : Stmt := topS 32
abbrev s_law : Stmt := topS 33
def k_SMALL : List Nat := [97, 98, 99, 100, 101, 102, 103, 104, 105, 106, 107, 108, 109, 110, 111, 112, 113, 114, 115, 116, 117, 118, 119, 120, 121, 122]
def b_is_long : SM :=
  sRet (vAnd (callB fIsi [eVar 0, eD (.ty "tuple")]) (op2 (bB gEq) (callB fLen [eVar 0]) (eVar 1)))
def c_is_long : List O → CR := fnCR b_is_long 2
def b_tupled (rec : List O → CR) : SM :=
  sRet (eIf (tst (callB fIsi [eVar 0, eTup [eD (.ty "list"), eD (.ty "tuple")]])) (callB fTuple [eLc (itV (eVar 0)) (gNm 1) (ret true) (callU rec [false] [eVar 1]) [1]]) (eVar 0))
def c_tupled : Nat → List O → CR
  | 0 => fnCR (fun _ => .stuck) 2
  | k + 1 => fnCR (b_tupled (c_tupled k)) 2
def b_is_letters : SM :=
  sseq (sIf (bOr (bNot (tst (callB fIsi [eVar 0, eD (.ty "str")]))) (tst (op2 (bB gEq) (eVar 0) (eD (.str []))))) (sRet (eD (.bl false))) (ret .nx))
  (sRet (callB fAll [eLc (itV (eVar 0)) (gNm 1) (ret true) (vAnd (op2 (bB gIn) (eVar 1) (eD (.str k_SMALL))) (op2 (bB gEq) (eSm fCount (eVar 0) (eVar 1)) (eD (.int 1)))) [1]]))
def c_is_letters : List O → CR := fnCR b_is_letters 2
def b_is_word_in : SM :=
  sRet (vAnd (callB fIsi [eVar 1, eD (.ty "str")]) (callB fAll [eLc (itV (eVar 1)) (gNm 2) (ret true) (op2 (bB gIn) (eVar 2) (eVar 0)) [2]]))
def c_is_word_in : List O → CR := fnCR b_is_word_in 3
def b_sure_letters : SM :=
  sseq (sIf (bNot (tst (callU c_is_letters [false] [eVar 0]))) (sRaise 1) (ret .nx))
  (sRet (eVar 0))
def c_sure_letters : List O → CR := fnCR b_sure_letters 1
def b_key_of : SM :=
  sRet (eTup [callB fLen [eVar 1], eLc (itV (eVar 1)) (gNm 2) (ret true) (eSm fIndex (eVar 0) (eVar 2)) [2]])
def c_key_of : List O → CR := fnCR b_key_of 3
def b_is_ahead : SM :=
  sRet (op2 (bB gLtD) (callU c_key_of [false, false] [eVar 0, eVar 1]) (callU c_key_of [false, false] [eVar 0, eVar 2]))
def c_is_ahead : List O → CR := fnCR b_is_ahead 3
def b_is_rule : SM :=
  sseq (sIf (bOr (bNot (tst (callU c_is_long [false, false] [eVar 1, eD (.int 2)]))) (bOr (bNot (tst (callU c_is_word_in [false, false] [eVar 0, op2 fIx (eVar 1) (eD (.int 0))]))) (bNot (tst (callU c_is_word_in [false, false] [eVar 0, op2 fIx (eVar 1) (eD (.int 1))]))))) (sRet (eD (.bl false))) (ret .nx))
  (sRet (callU c_is_ahead [false, false, false] [eVar 0, op2 fIx (eVar 1) (eD (.int 1)), op2 fIx (eVar 1) (eD (.int 0))]))
def c_is_rule : List O → CR := fnCR b_is_rule 2
def b_is_book : SM :=
  sseq (sIf (bOr (bNot (tst (callU c_is_long [false, false] [eVar 0, eD (.int 2)]))) (bOr (bNot (tst (callU c_is_letters [false] [op2 fIx (eVar 0) (eD (.int 0))]))) (bNot (tst (callB fIsi [op2 fIx (eVar 0) (eD (.int 1)), eD (.ty "tuple")]))))) (sRet (eD (.bl false))) (ret .nx))
  (sseq (sIf (bNot (tst (callB fAll [eLc (itV (op2 fIx (eVar 0) (eD (.int 1)))) (gNm 2) (ret true) (callU c_is_rule [false, false] [op2 fIx (eVar 0) (eD (.int 0)), eVar 2]) [2]]))) (sRet (eD (.bl false))) (ret .nx))
  (sseq (sAsg 1 (eLc (itV (op2 fIx (eVar 0) (eD (.int 1)))) (gNm 2) (ret true) (callU c_key_of [false, false] [op2 fIx (eVar 0) (eD (.int 0)), op2 fIx (eVar 2) (eD (.int 0))]) [2]))
  (sRet (callB fAll [eLc (itR1 (op2 fSub (callB fLen [eVar 1]) (eD (.int 1)))) (gNm 3) (ret true) (op2 (bB gLtD) (op2 fIx (eVar 1) (eVar 3)) (op2 fIx (eVar 1) (op2 fAdd (eVar 3) (eD (.int 1))))) [3]]))))
def c_is_book : List O → CR := fnCR b_is_book 4
def b_ordered : SM :=
  sRet (callB fTuple [eLc (itV (callB fSorted [eLc (itV (eVar 1)) (gNm 4) (ret true) (eTup [callU c_key_of [false, false] [eVar 0, op2 fIx (eVar 4) (eD (.int 0))], eVar 4]) [4]])) (gTp [gNm 2, gNm 3]) (ret true) (eVar 3) [2, 3]])
def c_ordered : List O → CR := fnCR b_ordered 5
def b_turned_rule : SM :=
  sRet (eIf (tst (callU c_is_ahead [false, false, false] [eVar 0, eVar 1, eVar 2])) (eTup [eVar 2, eVar 1]) (eTup [eVar 1, eVar 2]))
def c_turned_rule : List O → CR := fnCR b_turned_rule 3
def b_book_of : SM :=
  sseq (sTgt (eTup [callU c_sure_letters [false] [eVar 0], callU (c_tupled 8) [false] [eVar 1]]) (gTp [gNm 2, gNm 3]))
  (sseq (sIf (bNot (tst (callB fIsi [eVar 3, eD (.ty "tuple")]))) (sRaise 1) (ret .nx))
  (sseq (sFor (itV (eVar 3)) (gNm 4) (sIf (bOr (bNot (tst (callU c_is_long [false, false] [eVar 4, eD (.int 2)]))) (bOr (bNot (tst (callU c_is_word_in [false, false] [eVar 2, op2 fIx (eVar 4) (eD (.int 0))]))) (bOr (bNot (tst (callU c_is_word_in [false, false] [eVar 2, op2 fIx (eVar 4) (eD (.int 1))]))) (tst (op2 (bB gEq) (op2 fIx (eVar 4) (eD (.int 0))) (op2 fIx (eVar 4) (eD (.int 1)))))))) (sRaise 1) (ret .nx)))
  (sseq (sAsg 5 (eSortSet (eLc (itV (eVar 3)) (gTp [gNm 6, gNm 7]) (ret true) (callU c_turned_rule [false, false, false] [eVar 2, eVar 6, eVar 7]) [6, 7])))
  (sseq (sIf (tst (op2 (bB gLtD) (eLenSet (eLc (itV (eVar 5)) (gNm 8) (ret true) (op2 fIx (eVar 8) (eD (.int 0))) [8])) (callB fLen [eVar 5]))) (sRaise 0) (ret .nx))
  (sRet (eTup [eVar 2, callU c_ordered [false, false] [eVar 2, eVar 5]]))))))
def c_book_of : List O → CR := fnCR b_book_of 9
def b_law_box : SM :=
  sseq (sAsg 2 (eIf (tst (op2 (bB gLtD) (eVar 1) (callB fLen [eVar 0]))) (op2 fIx (eVar 0) (eVar 1)) (eD (.int 0))))
  (sRet (eLst [op2 fMulA (callB fAbs [eVar 2]) (callB fInt [op2 (bB gGe) (callB fAbs [eVar 2]) (op2 fPow (eD (.int 10)) (eD (.int 18)))]), op2 fAdd (op2 fAdd (op2 fMod (callB fInt [eVar 2]) (eD (.int 2305843009213693951))) (op2 fMulA (eD (.int 39373)) (eVar 1))) (eD (.int 8900000)), eD (.int 0)]))
def c_law_box : List O → CR := fnCR b_law_box 3
def b_law_take : SM :=
  sseq (sIf (tst (op2 (bB gGt) (op2 fIx (eVar 0) (eD (.int 0))) (eD (.int 0)))) (sseq (sAsg 2 (op2 fMod (callB fInt [op2 fIx (eVar 0) (eD (.int 0))]) (eVar 1)))
  (sseq (sSetIx 0 (eD (.int 0)) (op2 fDiv (op2 fIx (eVar 0) (eD (.int 0))) (eVar 1)))
  (sRet (eVar 2)))) (ret .nx))
  (sseq (sSetIx 0 (eD (.int 2)) (op2 fAdd (op2 fIx (eVar 0) (eD (.int 2))) (eD (.int 1))))
  (sseq (sAsg 3 (op2 fMod (callB fInt [op2 fMulA (op2 fAdd (op2 fIx (eVar 0) (eD (.int 1))) (op2 fMulA (eD (.int 48271)) (op2 fIx (eVar 0) (eD (.int 2))))) (op2 fAdd (eD (.int 39373)) (op2 fIx (eVar 0) (eD (.int 2))))]) (eD (.int 2147483647))))
  (sseq (sAsg 4 (op2 fAdd (op2 fMod (callB fInt [eVar 3]) (eD (.int 40009))) (eD (.int 7))))
  (sseq (sAsg 5 (op2 fMod (callB fInt [op2 fMulA (op2 fAdd (op2 fAdd (eVar 3) (op2 fIx (eVar 0) (eD (.int 2)))) (op2 fDiv (op2 fIx (eVar 0) (eD (.int 1))) (eD (.int 1000003)))) (eVar 4)]) (eD (.int 2147483629))))
  (sRet (op2 fMod (callB fInt [op2 fDiv (op2 fMod (callB fInt [op2 fAdd (op2 fMulA (eVar 5) (eD (.int 48271))) (eVar 3)]) (eD (.int 2147483587))) (eD (.int 64))]) (eVar 1)))))))
def c_law_take : List O → CR := fnCR b_law_take 6
def b_law_cells : SM :=
  sseq (sAsg 2 (vOr (callB fListA [eSl fSl (eVar 0) pNo (pSo (eVar 1))]) (eLst [eD (.int 0)])))
  (sseq (sFor (itE (eSl fSl (eVar 0) (pSo (eVar 1)) (pSo (eD (.int 63))))) (gTp [gNm 3, gNm 4]) (sseq (sAsg 5 (op2 fMod (callB fInt [eVar 3]) (eVar 1)))
  (sSetIx 2 (eVar 5) (op2 fAdd (op2 fIx (eVar 2) (eVar 5)) (op2 fMulA (eVar 4) (op2 fAdd (eVar 3) (eD (.int 2))))))))
  (sRet (eVar 2)))
def c_law_cells : List O → CR := fnCR b_law_cells 6
def b_law_of : SM :=
  sRet (op2 fIx (eVar 1) (callU c_law_take [true, false] [eVar 0, callB fLen [eVar 1]]))
def c_law_of : List O → CR := fnCR b_law_of 2
def b_law_pick : SM :=
  sseq (sPar 3 4 (callB fListA [eVar 1]) (eLst []))
  (sseq (sFor (itR1 (callB fMin [callB fInt [eVar 2], callB fLen [eVar 3]])) (gNm 5) (sExpr (eMut fApp 4 [eMut fPop 3 [callU c_law_take [true, false] [eVar 0, callB fLen [eVar 3]]]])))
  (sRet (eVar 4)))
def c_law_pick : List O → CR := fnCR b_law_pick 6
def b_law_mixed (rec : List O → CR) : SM :=
  sseq (sIf (bNot (tst (callB fIsi [eVar 1, eTup [eD (.ty "list"), eD (.ty "tuple")]]))) (sRet (eVar 1)) (ret .nx))
  (sseq (sAsg 2 (eLc (itV (eVar 1)) (gNm 3) (ret true) (callU rec [true, false] [eVar 0, eVar 3]) [3]))
  (sRet (eIf (tst (op2 (bB gEq) (callU c_law_take [true, false] [eVar 0, eD (.int 2)]) (eD (.int 0)))) (eVar 2) (callB fTuple [eVar 2]))))
def c_law_mixed : Nat → List O → CR
  | 0 => fnCR (fun _ => .stuck) 4
  | k + 1 => fnCR (b_law_mixed (c_law_mixed k)) 4
def b_law_same (rec : List O → CR) : SM :=
  sseq (sIf (tst (callB fIsi [eVar 1, eTup [eD (.ty "list"), eD (.ty "tuple")]])) (sseq (sIf (bOr (tst (op2 (bB gNe) (callB fIsi [eVar 0, eD (.ty "list")]) (callB fIsi [eVar 1, eD (.ty "list")]))) (tst (op2 (bB gNe) (callB fIsi [eVar 0, eD (.ty "tuple")]) (callB fIsi [eVar 1, eD (.ty "tuple")])))) (sRet (eD (.bl false))) (ret .nx))
  (sRet (vAnd (op2 (bB gEq) (callB fLen [eVar 0]) (callB fLen [eVar 1])) (callB fAll [eLc (itZ (eVar 0) (eVar 1)) (gTp [gNm 2, gNm 3]) (ret true) (callU rec [false, false] [eVar 2, eVar 3]) [2, 3]])))) (ret .nx))
  (sseq (sIf (tst (op2 (bB gIsN) (eVar 1) (eD .non))) (sRet (op2 (bB gIsN) (eVar 0) (eD .non))) (ret .nx))
  (sseq (sIf (tst (callB fIsi [eVar 1, eTup [eD (.ty "bool"), eD (.ty "str")]])) (sRet (vAnd (op2 (bB gEq) (callB fIsi [eVar 0, eD (.ty "bool")]) (callB fIsi [eVar 1, eD (.ty "bool")])) (vAnd (op2 (bB gEq) (callB fIsi [eVar 0, eD (.ty "str")]) (callB fIsi [eVar 1, eD (.ty "str")])) (op2 (bB gEq) (eVar 0) (eVar 1))))) (ret .nx))
  (sRet (vAnd (callB fIsi [eVar 0, eD (.ty "int")]) (vAnd (vNot (callB fIsi [eVar 0, eD (.ty "bool")])) (op2 (bB gEq) (eVar 0) (eVar 1)))))))
def c_law_same : Nat → List O → CR
  | 0 => fnCR (fun _ => .stuck) 4
  | k + 1 => fnCR (b_law_same (c_law_same k)) 4
def b_law_unmarked : SM :=
  sseq (sIf (bAnd (tst (callB fIsi [eVar 0, eD (.ty "list")])) (bAnd (tst (op2 (bB gGt) (callB fLen [eVar 0]) (eD (.int 0)))) (tst (callB fIsi [op2 fIx (eVar 0) (eD (.int 0)), eD (.ty "str")])))) (sRet (eLst [eD (.str [116, 111, 108, 100]), eD (.str [97, 32, 109, 97, 114, 107])])) (ret .nx))
  (sRet (eVar 0))
def c_law_unmarked : List O → CR := fnCR b_law_unmarked 1
def b_law_ahead : SM :=
  sseq (sAsg 3 (eTup [callB fLen [eVar 1], eLc (itV (eVar 1)) (gNm 4) (ret true) (eSm fIndex (eVar 0) (eVar 4)) [4]]))
  (sRet (op2 (bB gLtD) (eVar 3) (eTup [callB fLen [eVar 2], eLc (itV (eVar 2)) (gNm 4) (ret true) (eSm fIndex (eVar 0) (eVar 4)) [4]])))
def c_law_ahead : List O → CR := fnCR b_law_ahead 5
def b_law_ordered : SM :=
  sseq (sAsg 2 (eLst []))
  (sseq (sFor (itV (eVar 1)) (gNm 3) (sseq (sAsg 4 (callB fLen [eLc (itV (eVar 2)) (gNm 5) (tst (callU c_law_ahead [false, false, false] [eVar 0, op2 fIx (eVar 5) (eD (.int 0)), op2 fIx (eVar 3) (eD (.int 0))])) (eVar 5) [5]]))
  (sAsg 2 (op2 fAdd (op2 fAdd (eSl fSl (eVar 2) pNo (pSo (eVar 4))) (eLst [eVar 3])) (eSl fSl (eVar 2) (pSo (eVar 4)) pNo)))))
  (sRet (callB fTuple [eVar 2])))
def c_law_ordered : List O → CR := fnCR b_law_ordered 6
def b_law_some_word : SM :=
  sRet (eSm fJoin (eD (.str [])) (eLc (itR1 (callU c_law_take [true, false] [eVar 0, op2 fAdd (eVar 2) (eD (.int 1))])) (gNm 3) (ret true) (callU c_law_of [true, false] [eVar 0, eVar 1]) [3]))
def c_law_some_word : List O → CR := fnCR b_law_some_word 4
def b_law_heard : SM :=
  sTry 2 (sRet (callU c_law_unmarked [false] [callU c_book_of [false, false] [eVar 0, eVar 1]])) 0 2 (fun a => sRet (eLst [eD (.str [99, 97, 110, 110, 111, 116]), eIsE a 2 true]))
def c_law_heard : List O → CR := fnCR b_law_heard 3
def b_law_right : SM :=
  sseq (sAsg 1 (eSm fJoin (eD (.str [])) (callU c_law_pick [true, false, false] [eVar 0, eD (.str [97, 98, 99]), op2 fAdd (eD (.int 1)) (callU c_law_take [true, false] [eVar 0, eD (.int 3)])])))
  (sseq (sFor (itR1 (eD (.int 4))) (gNm 2) (sseq (sAsg 3 (eLc (itR1 (callU c_law_take [true, false] [eVar 0, eD (.int 6)])) (gNm 18) (ret true) (eTup [callU c_law_some_word [true, false, false] [eVar 0, eVar 1, eD (.int 3)], callU c_law_some_word [true, false, false] [eVar 0, eVar 1, eD (.int 3)]]) [18]))
  (sseq (sAsg 3 (eLc (itV (eVar 3)) (gNm 7) (tst (op2 (bB gNe) (op2 fIx (eVar 7) (eD (.int 0))) (op2 fIx (eVar 7) (eD (.int 1))))) (eVar 7) [7]))
  (sseq (sAsg 4 (eLst []))
  (sseq (sFor (itV (eVar 3)) (gTp [gNm 5, gNm 6]) (sseq (sAsg 7 (eIf (tst (callU c_law_ahead [false, false, false] [eVar 1, eVar 5, eVar 6])) (eTup [eVar 6, eVar 5]) (eTup [eVar 5, eVar 6])))
  (sAsg 4 (op2 fAdd (eVar 4) (eIf (tst (op2 (bB gNi) (eVar 7) (eVar 4))) (eLst [eVar 7]) (eLst []))))))
  (sseq (sAsg 8 (eLc (itV (eVar 4)) (gNm 7) (ret true) (op2 fIx (eVar 7) (eD (.int 0))) [7]))
  (sseq (sAsg 9 (eIf (tst (op2 (bB gEq) (eLenSet (eVar 8)) (callB fLen [eVar 8]))) (eTup [eVar 1, callU c_law_ordered [false, false] [eVar 1, eVar 4]]) (eLst [eD (.str [99, 97, 110, 110, 111, 116]), eD (.bl true)])))
  (sseq (sAsg 10 (callU (c_law_mixed 8) [true, false] [eVar 0, callB fTuple [eLc (itV (eVar 3)) (gNm 7) (ret true) (eIf (tst (op2 (bB gEq) (callU c_law_take [true, false] [eVar 0, eD (.int 2)]) (eD (.int 0)))) (eVar 7) (eRev (eVar 7))) [7]]]))
  (sseq (sIf (bNot (tst (callU (c_law_same 8) [false, false] [eLst [callU c_law_heard [false, false] [eVar 1, eVar 10], callU c_law_heard [false, false] [eVar 1, op2 fAdd (eVar 3) (eVar 3)]], eLst [eVar 9, eVar 9]]))) (sRet (eD (.bl false))) (ret .nx))
  (sIf (tst (callB fIsi [eVar 9, eD (.ty "tuple")])) (sseq (sAsg 11 (op2 fIx (eVar 9) (eD (.int 1))))
  (sseq (sAsg 12 (eLst [callU c_is_book [false] [eVar 9], callU c_is_book [false] [callB fListA [eVar 9]], callU c_is_book [false] [eTup [eVar 1, callB fListA [eVar 11]]], callU c_is_book [false] [eTup [eVar 1, op2 fAdd (eVar 11) (eTup [eTup [eD (.str []), op2 fIx (eVar 1) (eD (.int 0))]])]]]))
  (sseq (sIf (bNot (tst (callU (c_law_same 8) [false, false] [eVar 12, eLst [eD (.bl true), eD (.bl false), eD (.bl false), eD (.bl false)]]))) (sRet (eD (.bl false))) (ret .nx))
  (sseq (sAsg 13 (eLst [eRev (eVar 11), op2 fAdd (eSl fSl (eVar 11) (pSo (eD (.int 1))) pNo) (eSl fSl (eVar 11) pNo (pSo (eD (.int 1)))), op2 fAdd (eVar 11) (eSl fSl (eVar 11) (pSo (op1 fNeg (eD (.int 1)))) pNo)]))
  (sseq (sIf (bAnd (tst (op2 (bB gGt) (callB fLen [eVar 11]) (eD (.int 1)))) (bNot (tst (callU (c_law_same 8) [false, false] [eLc (itV (eVar 13)) (gNm 7) (ret true) (callU c_is_book [false] [eTup [eVar 1, eVar 7]]) [7], op2 fMulA (eLst [eD (.bl false)]) (eD (.int 3))])))) (sRet (eD (.bl false))) (ret .nx))
  (sIf (tst (op2 (bB gNe) (eVar 11) (eTup []))) (sseq (sTgt (callU c_law_of [true, false] [eVar 0, eVar 11]) (gTp [gNm 14, gNm 15]))
  (sseq (sAsg 16 (eLst [eTup [eVar 14, eVar 14], eTup [eVar 15, eVar 14], eTup [eVar 14], eTup [eVar 14, eVar 15, eD (.str [])], eLst [eVar 14, eVar 15], eTup [op2 fAdd (eVar 14) (eD (.str [109])), eVar 15], eTup [eVar 14, eD .non], eTup [eD (.int 3), eVar 15]]))
  (sIf (bOr (bNot (tst (callU (c_law_same 8) [false, false] [eLc (itV (eVar 16)) (gNm 7) (ret true) (callU c_is_book [false] [eTup [eVar 1, eTup [eVar 7]]]) [7], op2 fMulA (eLst [eD (.bl false)]) (eD (.int 8))]))) (bNot (tst (callU c_is_book [false] [eTup [eVar 1, eTup [eTup [eVar 14, eVar 15]]]])))) (sRet (eD (.bl false))) (ret .nx)))) (ret .nx))))))) (ret .nx)))))))))))
  (sseq (sAsg 17 (eLst [eD .non, eD (.int 3), eD (.str [97, 98]), eTup [], eTup [eD (.str [97, 98])], eTup [eD (.str [97, 98]), eTup [], eTup []], eTup [eD (.str [97, 97]), eTup []], eTup [eD (.str []), eTup []], eTup [eTup [eD (.str [97]), eD (.str [98])], eTup []], eTup [eD (.str [97, 98]), eD .non], eTup [eD (.str [97, 98]), eD (.str [98, 97])], eTup [eTup [eD (.str [97, 98]), eTup []]], eTup [eD (.str [97, 66]), eTup []], eTup [eD (.bl true), eTup []]]))
  (sseq (sIf (bNot (tst (callU (c_law_same 8) [false, false] [eLc (itV (eVar 17)) (gNm 7) (ret true) (callU c_is_book [false] [eVar 7]) [7], op2 fMulA (eLst [eD (.bl false)]) (eD (.int 14))]))) (sRet (eD (.bl false))) (ret .nx))
  (sseq (sAsg 12 (eLst [callU c_is_book [false] [eTup [eD (.str [97, 98]), eTup [eTup [eD (.str [98, 97]), eD (.str [97, 98])]]]], callU c_is_book [false] [eTup [eD (.str [98, 97]), eTup [eTup [eD (.str [98, 97]), eD (.str [97, 98])]]]], callU c_is_book [false] [eTup [eD (.str [98, 97]), eTup [eTup [eD (.str [97, 98]), eD (.str [98, 97])]]]], callU c_is_book [false] [eTup [eD (.str [97, 98]), eTup [eTup [eD (.str [98]), eD (.str [97])]]]], callU c_is_book [false] [eTup [eD (.str [97, 98]), eTup [eTup [eD (.str [97]), eD (.str [])], eTup [eD (.str [98]), eD (.str [])]]]]]))
  (sseq (sAsg 9 (eLst [eD (.bl true), eD (.bl false), eD (.bl true), eD (.bl true), eD (.bl true)]))
  (sRet (callU (c_law_same 8) [false, false] [eVar 12, eVar 9])))))))
def c_law_right : List O → CR := fnCR b_law_right 19
def b_law : SM :=
  sseq (sAsg 1 (callU c_law_cells [false, false] [eVar 0, eD (.int 2)]))
  (sRet (callB fAll [eLc (itR1 (callB fLen [eVar 1])) (gNm 2) (ret true) (callT c_law_right (callU c_law_box [false, false] [eVar 1, eVar 2])) [2]]))
def c_law : List O → CR := fnCR b_law 3
def cxK (K : PySem.W.Frag) : Nat → Addr
  | 0 => He.ga K "CanNot"
  | 1 => He.ga K "Unfit"
  | _ => 0
structure Tx (K : PySem.W.Frag) (mg : Str → Option Value) : Prop where
  f_is_long : ∃ fd, Fun K "is_long" "is_long" s_is_long (He.ga K "is_long") fd
  g_is_long : mg "is_long" = some (.ref (He.ga K "is_long"))
  f_tupled : ∃ fd, Fun K "tupled" "tupled" s_tupled (He.ga K "tupled") fd
  g_tupled : mg "tupled" = some (.ref (He.ga K "tupled"))
  f_is_letters : ∃ fd, Fun K "is_letters" "is_letters" s_is_letters (He.ga K "is_letters") fd
  g_is_letters : mg "is_letters" = some (.ref (He.ga K "is_letters"))
  f_is_word_in : ∃ fd, Fun K "is_word_in" "is_word_in" s_is_word_in (He.ga K "is_word_in") fd
  g_is_word_in : mg "is_word_in" = some (.ref (He.ga K "is_word_in"))
  f_sure_letters : ∃ fd, Fun K "sure_letters" "sure_letters" s_sure_letters (He.ga K "sure_letters") fd
  g_sure_letters : mg "sure_letters" = some (.ref (He.ga K "sure_letters"))
  f_key_of : ∃ fd, Fun K "key_of" "key_of" s_key_of (He.ga K "key_of") fd
  g_key_of : mg "key_of" = some (.ref (He.ga K "key_of"))
  f_is_ahead : ∃ fd, Fun K "is_ahead" "is_ahead" s_is_ahead (He.ga K "is_ahead") fd
  g_is_ahead : mg "is_ahead" = some (.ref (He.ga K "is_ahead"))
  f_is_rule : ∃ fd, Fun K "is_rule" "is_rule" s_is_rule (He.ga K "is_rule") fd
  g_is_rule : mg "is_rule" = some (.ref (He.ga K "is_rule"))
  f_is_book : ∃ fd, Fun K "is_book" "is_book" s_is_book (He.ga K "is_book") fd
  g_is_book : mg "is_book" = some (.ref (He.ga K "is_book"))
  f_ordered : ∃ fd, Fun K "ordered" "ordered" s_ordered (He.ga K "ordered") fd
  g_ordered : mg "ordered" = some (.ref (He.ga K "ordered"))
  f_turned_rule : ∃ fd, Fun K "turned_rule" "turned_rule" s_turned_rule (He.ga K "turned_rule") fd
  g_turned_rule : mg "turned_rule" = some (.ref (He.ga K "turned_rule"))
  f_book_of : ∃ fd, Fun K "book_of" "book_of" s_book_of (He.ga K "book_of") fd
  g_book_of : mg "book_of" = some (.ref (He.ga K "book_of"))
  f_law_box : ∃ fd, Fun K "_law_box" "_law_box" s_law_box (He.ga K "_law_box") fd
  g_law_box : mg "_law_box" = some (.ref (He.ga K "_law_box"))
  f_law_take : ∃ fd, Fun K "_law_take" "_law_take" s_law_take (He.ga K "_law_take") fd
  g_law_take : mg "_law_take" = some (.ref (He.ga K "_law_take"))
  f_law_cells : ∃ fd, Fun K "_law_cells" "_law_cells" s_law_cells (He.ga K "_law_cells") fd
  g_law_cells : mg "_law_cells" = some (.ref (He.ga K "_law_cells"))
  f_law_of : ∃ fd, Fun K "_law_of" "_law_of" s_law_of (He.ga K "_law_of") fd
  g_law_of : mg "_law_of" = some (.ref (He.ga K "_law_of"))
  f_law_pick : ∃ fd, Fun K "_law_pick" "_law_pick" s_law_pick (He.ga K "_law_pick") fd
  g_law_pick : mg "_law_pick" = some (.ref (He.ga K "_law_pick"))
  f_law_mixed : ∃ fd, Fun K "_law_mixed" "_law_mixed" s_law_mixed (He.ga K "_law_mixed") fd
  g_law_mixed : mg "_law_mixed" = some (.ref (He.ga K "_law_mixed"))
  f_law_same : ∃ fd, Fun K "_law_same" "_law_same" s_law_same (He.ga K "_law_same") fd
  g_law_same : mg "_law_same" = some (.ref (He.ga K "_law_same"))
  f_law_unmarked : ∃ fd, Fun K "_law_unmarked" "_law_unmarked" s_law_unmarked (He.ga K "_law_unmarked") fd
  g_law_unmarked : mg "_law_unmarked" = some (.ref (He.ga K "_law_unmarked"))
  f_law_ahead : ∃ fd, Fun K "_law_ahead" "_law_ahead" s_law_ahead (He.ga K "_law_ahead") fd
  g_law_ahead : mg "_law_ahead" = some (.ref (He.ga K "_law_ahead"))
  f_law_ordered : ∃ fd, Fun K "_law_ordered" "_law_ordered" s_law_ordered (He.ga K "_law_ordered") fd
  g_law_ordered : mg "_law_ordered" = some (.ref (He.ga K "_law_ordered"))
  f_law_some_word : ∃ fd, Fun K "_law_some_word" "_law_some_word" s_law_some_word (He.ga K "_law_some_word") fd
  g_law_some_word : mg "_law_some_word" = some (.ref (He.ga K "_law_some_word"))
  f_law_heard : ∃ fd, Fun K "_law_heard" "_law_heard" s_law_heard (He.ga K "_law_heard") fd
  g_law_heard : mg "_law_heard" = some (.ref (He.ga K "_law_heard"))
  f_law_right : ∃ fd, Fun K "_law_right" "_law_right" s_law_right (He.ga K "_law_right") fd
  g_law_right : mg "_law_right" = some (.ref (He.ga K "_law_right"))
  f_law : ∃ fd, Fun K "law" "law" s_law (He.ga K "law") fd
  g_law : mg "law" = some (.ref (He.ga K "law"))
  n_ValueError : mg "ValueError" = none
  n_abs : mg "abs" = none
  n_all : mg "all" = none
  n_bool : mg "bool" = none
  n_enumerate : mg "enumerate" = none
  n_int : mg "int" = none
  n_isinstance : mg "isinstance" = none
  n_len : mg "len" = none
  n_list : mg "list" = none
  n_min : mg "min" = none
  n_range : mg "range" = none
  n_set : mg "set" = none
  n_sorted : mg "sorted" = none
  n_str : mg "str" = none
  n_tuple : mg "tuple" = none
  n_zip : mg "zip" = none
  c_SMALL : ∃ t, mg "SMALL" = some (.str ⟨k_SMALL.toArray⟩ t)
  x_CanNot : XF K mg (cxK K) 0 "CanNot"
  exm_CanNot : ∀ c', c' < 2 ∨ c' = 0 → PySem.W.exmOne K (.ref (cxK K c')) (.ref (cxK K 0)) = some (decide (c' = 0))
  ec_CanNot : ExcC K (cxK K 0)
  ev_CanNot : PySem.W.kitOne K (.ref (cxK K 0)) (.type "ValueError") = some true
  x_Unfit : XF K mg (cxK K) 1 "Unfit"
section
variable {P : Program} {w : World} {K : PySem.W.Frag} {mg : Str → Option Value} {base : Heap}
theorem ff_is_long (T : Tx K mg) : ∃ fd, FF P w K mg base (cxK K) 1 "is_long" (He.ga K "is_long") fd ["thing", "length"] [false, false] c_is_long := by
  obtain ⟨fd, F⟩ := T.f_is_long
  have nd : List.Nodup (α := Str) ["thing", "length"] := by decide +kernel
  have Sc : FnScope ["thing", "length"] ["thing", "length"] (defScope s_is_long) := ⟨rfl, rfl, rfl, by decide +kernel, rfl, by decide +kernel, by decide +kernel⟩
  refine ⟨fd, ⟨fn_okT F Sc rfl fun cdv A outer s H E hr tk hp => ?_, T.g_is_long, F.kp, F.binds fun _ _ _ _ _ _ us hl => match us, hl with | [_, _], _ => rfl⟩⟩
  · exact s_one (by exact s_ret (by exact m_and (by exact m_cb ok_isi call_isiA T.n_isinstance (by exact a_cons (by exact m_var 0) (by exact a_cons (by exact m_ty "tuple" T.n_tuple) a_nil))) (by exact pe_one (by exact m_cmp ok_eq (op_eqD (huR hr (by decide))) (by exact m_cb ok_len call_len T.n_len (by exact a_cons (by exact m_var 0) a_nil)) (by exact m_var 1)))))
theorem ff_tupled (T : Tx K mg) : ∀ n : Nat, ∃ fd, FF P w K mg base (cxK K) (1 + n) "tupled" (He.ga K "tupled") fd ["value"] [false] (c_tupled n)
  | 0 => by
    obtain ⟨fd, F⟩ := T.f_tupled
    have Sc : FnScope ["value", "own"] ["value"] (defScope s_tupled) := ⟨rfl, rfl, rfl, by decide +kernel, rfl, by decide +kernel, by decide +kernel⟩
    exact ⟨fd, ⟨fn_okT F Sc rfl fun cdv A outer s H E hr tk hp => ⟨fun pins s σ H D I h => by obtain ⟨_, _, _, _, z⟩ := h; exact z.elim⟩, T.g_tupled, F.kp, F.binds fun _ _ _ _ _ _ us hl => match us, hl with | [_], _ => rfl⟩⟩
  | n + 1 => by
    obtain ⟨fd, F⟩ := T.f_tupled
    obtain ⟨fd_tupled, F_tupled⟩ := ff_tupled T n
    have nd : List.Nodup (α := Str) ["value", "own"] := by decide +kernel
    have Sc : FnScope ["value", "own"] ["value"] (defScope s_tupled) := ⟨rfl, rfl, rfl, by decide +kernel, rfl, by decide +kernel, by decide +kernel⟩
    refine ⟨fd, ⟨fn_okT (k := 1 + n) F Sc rfl fun cdv A outer s H E hr tk hp => ?_, T.g_tupled, F.kp, F.binds fun _ _ _ _ _ _ us hl => match us, hl with | [_], _ => rfl⟩⟩
    exact s_one (by exact s_ret (by exact m_ife (by exact t_tst (by exact m_cb ok_isi call_isiA T.n_isinstance (by exact a_cons (by exact m_var 0) (by exact a_cons (by exact m_tup (by exact a_cons (by exact m_ty "list" T.n_list) (by exact a_cons (by exact m_ty "tuple" T.n_tuple) a_nil))) a_nil)))) (by exact m_ct ok_tuple call_tuple_of T.n_tuple (by exact a_cons (by exact m_lc nd (by exact i_val (by exact m_var 0)) (own := [("own", 1)]) (by first | (show blkC ["value", "own"] (defScope s_tupled) _ _ = true; decide +kernel) | decide +kernel | rfl) (fun _ _ _ _ _ => by exact g_nm nd) (fun _ _ _ _ _ => by exact t_yes) (fun _ _ _ _ _ => by exact m_call F_tupled (hr.mono (by omega)) takes0 (by exact a_cons (by exact m_var 1) a_nil))) a_nil)) (by exact m_var 0)))
theorem ff_is_letters (T : Tx K mg) : ∃ fd, FF P w K mg base (cxK K) 1 "is_letters" (He.ga K "is_letters") fd ["thing"] [false] c_is_letters := by
  obtain ⟨fd, F⟩ := T.f_is_letters
  have nd : List.Nodup (α := Str) ["thing", "letter"] := by decide +kernel
  have Sc : FnScope ["thing", "letter"] ["thing"] (defScope s_is_letters) := ⟨rfl, rfl, rfl, by decide +kernel, rfl, by decide +kernel, by decide +kernel⟩
  refine ⟨fd, ⟨fn_okT F Sc rfl fun cdv A outer s H E hr tk hp => ?_, T.g_is_letters, F.kp, F.binds fun _ _ _ _ _ _ us hl => match us, hl with | [_], _ => rfl⟩⟩
  · exact s_cons (by exact s_if (by exact t_bool (by exact t_or (by exact t_not (by exact t_tst (by exact m_cb ok_isi call_isiA T.n_isinstance (by exact a_cons (by exact m_var 0) (by exact a_cons (by exact m_ty "str" T.n_str) a_nil))))) (by exact t_or1 (by exact t_cmp ok_eq (op_eqD (huR hr (by decide))) (by exact m_var 0) (by exact m_str []))))) (by exact s_one (by exact s_ret (by exact m_bl))) (by exact s_nil)) (by exact s_one (by exact s_ret (by exact m_cb ok_all (cr_all rfl) T.n_all (by exact a_cons (by exact m_lc nd (by exact i_val (by exact m_var 0)) (own := [("letter", 1)]) (by first | (show blkC ["thing", "letter"] (defScope s_is_letters) _ _ = true; decide +kernel) | decide +kernel | rfl) (fun _ _ _ _ _ => by exact g_nm nd) (fun _ _ _ _ _ => by exact t_yes) (fun _ _ _ _ _ => by exact m_and (by exact m_cmp ok_in (op_in_str.or (op_inD (huR hr (by decide)))) (by exact m_var 1) (by exact m_gstr k_SMALL T.c_SMALL)) (by exact pe_one (by exact m_cmp ok_eq (op_eqD (huR hr (by decide))) (by exact m_sm ok_count PySem.F.slot_str_count PySem.F.type_str_count mt_count (by exact m_var 0) (by exact m_var 1)) (by exact m_int))))) a_nil))))
theorem ff_is_word_in (T : Tx K mg) : ∃ fd, FF P w K mg base (cxK K) 1 "is_word_in" (He.ga K "is_word_in") fd ["letters", "thing"] [false, false] c_is_word_in := by
  obtain ⟨fd, F⟩ := T.f_is_word_in
  have nd : List.Nodup (α := Str) ["letters", "thing", "letter"] := by decide +kernel
  have Sc : FnScope ["letters", "thing", "letter"] ["letters", "thing"] (defScope s_is_word_in) := ⟨rfl, rfl, rfl, by decide +kernel, rfl, by decide +kernel, by decide +kernel⟩
  refine ⟨fd, ⟨fn_okT F Sc rfl fun cdv A outer s H E hr tk hp => ?_, T.g_is_word_in, F.kp, F.binds fun _ _ _ _ _ _ us hl => match us, hl with | [_, _], _ => rfl⟩⟩
  · exact s_one (by exact s_ret (by exact m_and (by exact m_cb ok_isi call_isiA T.n_isinstance (by exact a_cons (by exact m_var 1) (by exact a_cons (by exact m_ty "str" T.n_str) a_nil))) (by exact pe_one (by exact m_cb ok_all (cr_all rfl) T.n_all (by exact a_cons (by exact m_lc nd (by exact i_val (by exact m_var 1)) (own := [("letter", 2)]) (by first | (show blkC ["letters", "thing", "letter"] (defScope s_is_word_in) _ _ = true; decide +kernel) | decide +kernel | rfl) (fun _ _ _ _ _ => by exact g_nm nd) (fun _ _ _ _ _ => by exact t_yes) (fun _ _ _ _ _ => by exact m_cmp ok_in (op_in_str.or (op_inD (huR hr (by decide)))) (by exact m_var 2) (by exact m_var 0))) a_nil)))))
theorem ff_sure_letters (T : Tx K mg) : ∃ fd, FF P w K mg base (cxK K) 2 "sure_letters" (He.ga K "sure_letters") fd ["value"] [false] c_sure_letters := by
  obtain ⟨fd, F⟩ := T.f_sure_letters
  obtain ⟨fd_is_letters, F_is_letters⟩ := ff_is_letters (P := P) (w := w) (base := base) T
  have nd : List.Nodup (α := Str) ["value"] := by decide +kernel
  have Sc : FnScope ["value"] ["value"] (defScope s_sure_letters) := ⟨rfl, rfl, rfl, by decide +kernel, rfl, by decide +kernel, by decide +kernel⟩
  refine ⟨fd, ⟨fn_okT F Sc rfl fun cdv A outer s H E hr tk hp => ?_, T.g_sure_letters, F.kp, F.binds fun _ _ _ _ _ _ us hl => match us, hl with | [_], _ => rfl⟩⟩
  · exact s_cons (by exact s_if (by exact t_not (by exact t_tst (by exact m_call F_is_letters (hr.mono (by omega)) tk (by exact a_cons (by exact m_var 0) a_nil)))) (by exact s_one (by exact s_raise (c := 1) T.x_Unfit tk)) (by exact s_nil)) (by exact s_one (by exact s_ret (by exact m_var 0)))
theorem ff_key_of (T : Tx K mg) : ∃ fd, FF P w K mg base (cxK K) 1 "key_of" (He.ga K "key_of") fd ["letters", "word"] [false, false] c_key_of := by
  obtain ⟨fd, F⟩ := T.f_key_of
  have nd : List.Nodup (α := Str) ["letters", "word", "letter"] := by decide +kernel
  have Sc : FnScope ["letters", "word", "letter"] ["letters", "word"] (defScope s_key_of) := ⟨rfl, rfl, rfl, by decide +kernel, rfl, by decide +kernel, by decide +kernel⟩
  refine ⟨fd, ⟨fn_okT F Sc rfl fun cdv A outer s H E hr tk hp => ?_, T.g_key_of, F.kp, F.binds fun _ _ _ _ _ _ us hl => match us, hl with | [_, _], _ => rfl⟩⟩
  · exact s_one (by exact s_ret (by exact m_tup (by exact a_cons (by exact m_cb ok_len call_len T.n_len (by exact a_cons (by exact m_var 1) a_nil)) (by exact a_cons (by exact m_lc nd (by exact i_val (by exact m_var 1)) (own := [("letter", 2)]) (by first | (show blkC ["letters", "word", "letter"] (defScope s_key_of) _ _ = true; decide +kernel) | decide +kernel | rfl) (fun _ _ _ _ _ => by exact g_nm nd) (fun _ _ _ _ _ => by exact t_yes) (fun _ _ _ _ _ => by exact m_sm ok_index PySem.F.slot_str_index PySem.F.type_str_index mt_sindex (by exact m_var 0) (by exact m_var 2))) a_nil))))
theorem ff_is_ahead (T : Tx K mg) : ∃ fd, FF P w K mg base (cxK K) 2 "is_ahead" (He.ga K "is_ahead") fd ["letters", "one", "other"] [false, false, false] c_is_ahead := by
  obtain ⟨fd, F⟩ := T.f_is_ahead
  obtain ⟨fd_key_of, F_key_of⟩ := ff_key_of (P := P) (w := w) (base := base) T
  have nd : List.Nodup (α := Str) ["letters", "one", "other"] := by decide +kernel
  have Sc : FnScope ["letters", "one", "other"] ["letters", "one", "other"] (defScope s_is_ahead) := ⟨rfl, rfl, rfl, by decide +kernel, rfl, by decide +kernel, by decide +kernel⟩
  refine ⟨fd, ⟨fn_okT F Sc rfl fun cdv A outer s H E hr tk hp => ?_, T.g_is_ahead, F.kp, F.binds fun _ _ _ _ _ _ us hl => match us, hl with | [_, _, _], _ => rfl⟩⟩
  · exact s_one (by exact s_ret (by exact m_cmp ok_ltD (op_ltP (huR hr (by decide))) (by exact m_call F_key_of (hr.mono (by omega)) tk (by exact a_cons (by exact m_var 0) (by exact a_cons (by exact m_var 1) a_nil))) (by exact m_call F_key_of (hr.mono (by omega)) tk (by exact a_cons (by exact m_var 0) (by exact a_cons (by exact m_var 2) a_nil)))))
theorem ff_is_rule (T : Tx K mg) : ∃ fd, FF P w K mg base (cxK K) 3 "is_rule" (He.ga K "is_rule") fd ["letters", "thing"] [false, false] c_is_rule := by
  obtain ⟨fd, F⟩ := T.f_is_rule
  obtain ⟨fd_is_long, F_is_long⟩ := ff_is_long (P := P) (w := w) (base := base) T
  obtain ⟨fd_is_word_in, F_is_word_in⟩ := ff_is_word_in (P := P) (w := w) (base := base) T
  obtain ⟨fd_is_ahead, F_is_ahead⟩ := ff_is_ahead (P := P) (w := w) (base := base) T
  have nd : List.Nodup (α := Str) ["letters", "thing"] := by decide +kernel
  have Sc : FnScope ["letters", "thing"] ["letters", "thing"] (defScope s_is_rule) := ⟨rfl, rfl, rfl, by decide +kernel, rfl, by decide +kernel, by decide +kernel⟩
  refine ⟨fd, ⟨fn_okT F Sc rfl fun cdv A outer s H E hr tk hp => ?_, T.g_is_rule, F.kp, F.binds fun _ _ _ _ _ _ us hl => match us, hl with | [_, _], _ => rfl⟩⟩
  · exact s_cons (by exact s_if (by exact t_bool (by exact t_or (by exact t_not (by exact t_tst (by exact m_call F_is_long (hr.mono (by omega)) tk (by exact a_cons (by exact m_var 1) (by exact a_cons (by exact m_int) a_nil))))) (by exact t_or (by exact t_not (by exact t_tst (by exact m_call F_is_word_in (hr.mono (by omega)) tk (by exact a_cons (by exact m_var 0) (by exact a_cons (by exact m_ix ok_ix ix_seq (by exact m_var 1) (by exact m_int)) a_nil))))) (by exact t_or1 (by exact t_not (by exact t_tst (by exact m_call F_is_word_in (hr.mono (by omega)) tk (by exact a_cons (by exact m_var 0) (by exact a_cons (by exact m_ix ok_ix ix_seq (by exact m_var 1) (by exact m_int)) a_nil))))))))) (by exact s_one (by exact s_ret (by exact m_bl))) (by exact s_nil)) (by exact s_one (by exact s_ret (by exact m_call F_is_ahead (hr.mono (by omega)) tk (by exact a_cons (by exact m_var 0) (by exact a_cons (by exact m_ix ok_ix ix_seq (by exact m_var 1) (by exact m_int)) (by exact a_cons (by exact m_ix ok_ix ix_seq (by exact m_var 1) (by exact m_int)) a_nil))))))
theorem ff_is_book (T : Tx K mg) : ∃ fd, FF P w K mg base (cxK K) 4 "is_book" (He.ga K "is_book") fd ["thing"] [false] c_is_book := by
  obtain ⟨fd, F⟩ := T.f_is_book
  obtain ⟨fd_is_long, F_is_long⟩ := ff_is_long (P := P) (w := w) (base := base) T
  obtain ⟨fd_is_letters, F_is_letters⟩ := ff_is_letters (P := P) (w := w) (base := base) T
  obtain ⟨fd_key_of, F_key_of⟩ := ff_key_of (P := P) (w := w) (base := base) T
  obtain ⟨fd_is_rule, F_is_rule⟩ := ff_is_rule (P := P) (w := w) (base := base) T
  have nd : List.Nodup (α := Str) ["thing", "keys", "rule", "k"] := by decide +kernel
  have Sc : FnScope ["thing", "keys", "rule", "k"] ["thing"] (defScope s_is_book) := ⟨rfl, rfl, rfl, by decide +kernel, rfl, by decide +kernel, by decide +kernel⟩
  refine ⟨fd, ⟨fn_okT F Sc rfl fun cdv A outer s H E hr tk hp => ?_, T.g_is_book, F.kp, F.binds fun _ _ _ _ _ _ us hl => match us, hl with | [_], _ => rfl⟩⟩
  · exact s_cons (by exact s_if (by exact t_bool (by exact t_or (by exact t_not (by exact t_tst (by exact m_call F_is_long (hr.mono (by omega)) tk (by exact a_cons (by exact m_var 0) (by exact a_cons (by exact m_int) a_nil))))) (by exact t_or (by exact t_not (by exact t_tst (by exact m_call F_is_letters (hr.mono (by omega)) tk (by exact a_cons (by exact m_ix ok_ix ix_seq (by exact m_var 0) (by exact m_int)) a_nil)))) (by exact t_or1 (by exact t_not (by exact t_tst (by exact m_cb ok_isi call_isiA T.n_isinstance (by exact a_cons (by exact m_ix ok_ix ix_seq (by exact m_var 0) (by exact m_int)) (by exact a_cons (by exact m_ty "tuple" T.n_tuple) a_nil))))))))) (by exact s_one (by exact s_ret (by exact m_bl))) (by exact s_nil)) (by exact s_cons (by exact s_if (by exact t_not (by exact t_tst (by exact m_cb ok_all (cr_all rfl) T.n_all (by exact a_cons (by exact m_lc nd (by exact i_val (by exact m_ix ok_ix ix_seq (by exact m_var 0) (by exact m_int))) (own := [("rule", 2)]) (by first | (show blkC ["thing", "keys", "rule", "k"] (defScope s_is_book) _ _ = true; decide +kernel) | decide +kernel | rfl) (fun _ _ _ _ _ => by exact g_nm nd) (fun _ _ _ _ _ => by exact t_yes) (fun _ _ _ _ _ => by exact m_call F_is_rule (hr.mono (by omega)) takes0 (by exact a_cons (by exact m_ix ok_ix ix_seq (by exact m_var 0) (by exact m_int)) (by exact a_cons (by exact m_var 2) a_nil)))) a_nil)))) (by exact s_one (by exact s_ret (by exact m_bl))) (by exact s_nil)) (by exact s_cons (by exact s_asg (i := 1) (by exact m_lc nd (by exact i_val (by exact m_ix ok_ix ix_seq (by exact m_var 0) (by exact m_int))) (own := [("rule", 2)]) (by first | (show blkC ["thing", "keys", "rule", "k"] (defScope s_is_book) _ _ = true; decide +kernel) | decide +kernel | rfl) (fun _ _ _ _ _ => by exact g_nm nd) (fun _ _ _ _ _ => by exact t_yes) (fun _ _ _ _ _ => by exact m_call F_key_of (hr.mono (by omega)) takes0 (by exact a_cons (by exact m_ix ok_ix ix_seq (by exact m_var 0) (by exact m_int)) (by exact a_cons (by exact m_ix ok_ix ix_seq (by exact m_var 2) (by exact m_int)) a_nil)))) nd) (by exact s_one (by exact s_ret (by exact m_cb ok_all (cr_all rfl) T.n_all (by exact a_cons (by exact m_lc nd (by exact i_rng1 (by exact m_sub (by exact m_cb ok_len call_len T.n_len (by exact a_cons (by exact m_var 1) a_nil)) (by exact m_int)) T.n_range) (own := [("k", 3)]) (by first | (show blkC ["thing", "keys", "rule", "k"] (defScope s_is_book) _ _ = true; decide +kernel) | decide +kernel | rfl) (fun _ _ _ _ _ => by exact g_nm nd) (fun _ _ _ _ _ => by exact t_yes) (fun _ _ _ _ _ => by exact m_cmp ok_ltD (op_ltP (huR hr (by decide))) (by exact m_ix ok_ix ix_seq (by exact m_var 1) (by exact m_var 3)) (by exact m_ix ok_ix ix_seq (by exact m_var 1) (by exact m_add (by exact m_var 3) (by exact m_int))))) a_nil))))))
theorem ff_ordered (T : Tx K mg) : ∃ fd, FF P w K mg base (cxK K) 2 "ordered" (He.ga K "ordered") fd ["letters", "rules"] [false, false] c_ordered := by
  obtain ⟨fd, F⟩ := T.f_ordered
  obtain ⟨fd_key_of, F_key_of⟩ := ff_key_of (P := P) (w := w) (base := base) T
  have nd : List.Nodup (α := Str) ["letters", "rules", "_", "rule", "own"] := by decide +kernel
  have Sc : FnScope ["letters", "rules", "_", "rule", "own"] ["letters", "rules"] (defScope s_ordered) := ⟨rfl, rfl, rfl, by decide +kernel, rfl, by decide +kernel, by decide +kernel⟩
  refine ⟨fd, ⟨fn_okT F Sc rfl fun cdv A outer s H E hr tk hp => ?_, T.g_ordered, F.kp, F.binds fun _ _ _ _ _ _ us hl => match us, hl with | [_, _], _ => rfl⟩⟩
  · exact s_one (by exact s_ret (by exact m_ct ok_tuple call_tuple_of T.n_tuple (by exact a_cons (by exact m_lc nd (by exact i_val (by exact m_cb ok_sorted (cr_sortD (huR hr (by decide))) T.n_sorted (by exact a_cons (by exact m_lc nd (by exact i_val (by exact m_var 1)) (own := [("own", 4)]) (by first | (show blkC ["letters", "rules", "_", "rule", "own"] (defScope s_ordered) _ _ = true; decide +kernel) | decide +kernel | rfl) (fun _ _ _ _ _ => by exact g_nm nd) (fun _ _ _ _ _ => by exact t_yes) (fun _ _ _ _ _ => by exact m_tup (by exact a_cons (by exact m_call F_key_of (hr.mono (by omega)) takes0 (by exact a_cons (by exact m_var 0) (by exact a_cons (by exact m_ix ok_ix ix_seq (by exact m_var 4) (by exact m_int)) a_nil))) (by exact a_cons (by exact m_var 4) a_nil)))) a_nil))) (own := [("_", 2), ("rule", 3)]) (by first | (show blkC ["letters", "rules", "_", "rule", "own"] (defScope s_ordered) _ _ = true; decide +kernel) | decide +kernel | rfl) (fun _ _ _ _ _ => by exact g_tup (by exact gs_cons (by exact g_nm nd) (by exact gs_cons (by exact g_nm nd) gs_nil))) (fun _ _ _ _ _ => by exact t_yes) (fun _ _ _ _ _ => by exact m_var 3)) a_nil)))
theorem ff_turned_rule (T : Tx K mg) : ∃ fd, FF P w K mg base (cxK K) 3 "turned_rule" (He.ga K "turned_rule") fd ["letters", "one", "other"] [false, false, false] c_turned_rule := by
  obtain ⟨fd, F⟩ := T.f_turned_rule
  obtain ⟨fd_is_ahead, F_is_ahead⟩ := ff_is_ahead (P := P) (w := w) (base := base) T
  have nd : List.Nodup (α := Str) ["letters", "one", "other"] := by decide +kernel
  have Sc : FnScope ["letters", "one", "other"] ["letters", "one", "other"] (defScope s_turned_rule) := ⟨rfl, rfl, rfl, by decide +kernel, rfl, by decide +kernel, by decide +kernel⟩
  refine ⟨fd, ⟨fn_okT F Sc rfl fun cdv A outer s H E hr tk hp => ?_, T.g_turned_rule, F.kp, F.binds fun _ _ _ _ _ _ us hl => match us, hl with | [_, _, _], _ => rfl⟩⟩
  · exact s_one (by exact s_ret (by exact m_ife (by exact t_tst (by exact m_call F_is_ahead (hr.mono (by omega)) tk (by exact a_cons (by exact m_var 0) (by exact a_cons (by exact m_var 1) (by exact a_cons (by exact m_var 2) a_nil))))) (by exact m_tup (by exact a_cons (by exact m_var 2) (by exact a_cons (by exact m_var 1) a_nil))) (by exact m_tup (by exact a_cons (by exact m_var 1) (by exact a_cons (by exact m_var 2) a_nil)))))
theorem ff_book_of (T : Tx K mg) : ∃ fd, FF P w K mg base (cxK K) 10 "book_of" (He.ga K "book_of") fd ["letters", "pairs"] [false, false] c_book_of := by
  obtain ⟨fd, F⟩ := T.f_book_of
  obtain ⟨fd_is_long, F_is_long⟩ := ff_is_long (P := P) (w := w) (base := base) T
  obtain ⟨fd_tupled, F_tupled⟩ := ff_tupled (P := P) (w := w) (base := base) T 8
  obtain ⟨fd_is_word_in, F_is_word_in⟩ := ff_is_word_in (P := P) (w := w) (base := base) T
  obtain ⟨fd_sure_letters, F_sure_letters⟩ := ff_sure_letters (P := P) (w := w) (base := base) T
  obtain ⟨fd_ordered, F_ordered⟩ := ff_ordered (P := P) (w := w) (base := base) T
  obtain ⟨fd_turned_rule, F_turned_rule⟩ := ff_turned_rule (P := P) (w := w) (base := base) T
  have nd : List.Nodup (α := Str) ["letters", "pairs", "own", "rows", "row", "rules", "one", "other", "rule"] := by decide +kernel
  have Sc : FnScope ["letters", "pairs", "own", "rows", "row", "rules", "one", "other", "rule"] ["letters", "pairs"] (defScope s_book_of) := ⟨rfl, rfl, rfl, by decide +kernel, rfl, by decide +kernel, by decide +kernel⟩
  refine ⟨fd, ⟨fn_okT F Sc rfl fun cdv A outer s H E hr tk hp => ?_, T.g_book_of, F.kp, F.binds fun _ _ _ _ _ _ us hl => match us, hl with | [_, _], _ => rfl⟩⟩
  · exact s_cons (by exact s_tgt (by exact m_tup (by exact a_cons (by exact m_call F_sure_letters (hr.mono (by omega)) tk (by exact a_cons (by exact m_var 0) a_nil)) (by exact a_cons (by exact m_call F_tupled (hr.mono (by omega)) tk (by exact a_cons (by exact m_var 1) a_nil)) a_nil))) (by exact g_tup (by exact gs_cons (by exact g_nm nd) (by exact gs_cons (by exact g_nm nd) gs_nil)))) (by exact s_cons (by exact s_if (by exact t_not (by exact t_tst (by exact m_cb ok_isi call_isiA T.n_isinstance (by exact a_cons (by exact m_var 3) (by exact a_cons (by exact m_ty "tuple" T.n_tuple) a_nil))))) (by exact s_one (by exact s_raise (c := 1) T.x_Unfit tk)) (by exact s_nil)) (by exact s_cons (by exact s_for hp (by exact i_val (by exact m_var 3)) (by exact g_nm nd) (by exact s_one (by exact s_if (by exact t_bool (by exact t_or (by exact t_not (by exact t_tst (by exact m_call F_is_long (hr.mono (by omega)) tk (by exact a_cons (by exact m_var 4) (by exact a_cons (by exact m_int) a_nil))))) (by exact t_or (by exact t_not (by exact t_tst (by exact m_call F_is_word_in (hr.mono (by omega)) tk (by exact a_cons (by exact m_var 2) (by exact a_cons (by exact m_ix ok_ix ix_seq (by exact m_var 4) (by exact m_int)) a_nil))))) (by exact t_or (by exact t_not (by exact t_tst (by exact m_call F_is_word_in (hr.mono (by omega)) tk (by exact a_cons (by exact m_var 2) (by exact a_cons (by exact m_ix ok_ix ix_seq (by exact m_var 4) (by exact m_int)) a_nil))))) (by exact t_or1 (by exact t_cmp ok_eq (op_eqD (huR hr (by decide))) (by exact m_ix ok_ix ix_seq (by exact m_var 4) (by exact m_int)) (by exact m_ix ok_ix ix_seq (by exact m_var 4) (by exact m_int)))))))) (by exact s_one (by exact s_raise (c := 1) T.x_Unfit tk)) (by exact s_nil)))) (by exact s_cons (by exact s_asg (i := 5) (by exact m_sortSet rfl (huR hr (by decide)) T.n_sorted T.n_set (by exact m_lc nd (by exact i_val (by exact m_var 3)) (own := [("one", 6), ("other", 7)]) (by first | (show blkC ["letters", "pairs", "own", "rows", "row", "rules", "one", "other", "rule"] (defScope s_book_of) _ _ = true; decide +kernel) | decide +kernel | rfl) (fun _ _ _ _ _ => by exact g_tup (by exact gs_cons (by exact g_nm nd) (by exact gs_cons (by exact g_nm nd) gs_nil))) (fun _ _ _ _ _ => by exact t_yes) (fun _ _ _ _ _ => by exact m_call F_turned_rule (hr.mono (by omega)) takes0 (by exact a_cons (by exact m_var 2) (by exact a_cons (by exact m_var 6) (by exact a_cons (by exact m_var 7) a_nil)))))) nd) (by exact s_cons (by exact s_if (by exact t_cmp ok_ltD (op_ltP (huR hr (by decide))) (by exact m_lenSet rfl T.n_len T.n_set (by exact m_lc nd (by exact i_val (by exact m_var 5)) (own := [("rule", 8)]) (by first | (show blkC ["letters", "pairs", "own", "rows", "row", "rules", "one", "other", "rule"] (defScope s_book_of) _ _ = true; decide +kernel) | decide +kernel | rfl) (fun _ _ _ _ _ => by exact g_nm nd) (fun _ _ _ _ _ => by exact t_yes) (fun _ _ _ _ _ => by exact m_ix ok_ix ix_seq (by exact m_var 8) (by exact m_int)))) (by exact m_cb ok_len call_len T.n_len (by exact a_cons (by exact m_var 5) a_nil))) (by exact s_one (by exact s_raise (c := 0) T.x_CanNot tk)) (by exact s_nil)) (by exact s_one (by exact s_ret (by exact m_tup (by exact a_cons (by exact m_var 2) (by exact a_cons (by exact m_call F_ordered (hr.mono (by omega)) tk (by exact a_cons (by exact m_var 2) (by exact a_cons (by exact m_var 5) a_nil))) a_nil)))))))))
theorem ff_law_box (T : Tx K mg) : ∃ fd, FF P w K mg base (cxK K) 1 "_law_box" (He.ga K "_law_box") fd ["script", "k"] [false, false] c_law_box := by
  obtain ⟨fd, F⟩ := T.f_law_box
  have nd : List.Nodup (α := Str) ["script", "k", "bit_so"] := by decide +kernel
  have Sc : FnScope ["script", "k", "bit_so"] ["script", "k"] (defScope s_law_box) := ⟨rfl, rfl, rfl, by decide +kernel, rfl, by decide +kernel, by decide +kernel⟩
  refine ⟨fd, ⟨fn_okT F Sc rfl fun cdv A outer s H E hr tk hp => ?_, T.g_law_box, F.kp, F.binds fun _ _ _ _ _ _ us hl => match us, hl with | [_, _], _ => rfl⟩⟩
  · exact s_cons (by exact s_asg (i := 2) (by exact m_ife (by exact t_cmp ok_ltD (op_ltP (huR hr (by decide))) (by exact m_var 1) (by exact m_cb ok_len call_len T.n_len (by exact a_cons (by exact m_var 0) a_nil))) (by exact m_ix ok_ix ix_seq (by exact m_var 0) (by exact m_var 1)) (by exact m_int)) nd) (by exact s_one (by exact s_ret (by exact m_lst (by exact a_cons (by exact m_mul (by exact m_cb ok_abs call_abs T.n_abs (by exact a_cons (by exact m_var 2) a_nil)) (by exact m_ct ok_int call_int1 T.n_int (by exact a_cons (by exact m_cmp ok_ge op_ge (by exact m_cb ok_abs call_abs T.n_abs (by exact a_cons (by exact m_var 2) a_nil)) (by exact m_pow (by exact m_int) (by exact m_int))) a_nil))) (by exact a_cons (by exact m_add (by exact m_add (by exact m_mod (by exact m_ct ok_int call_int1 T.n_int (by exact a_cons (by exact m_var 2) a_nil)) (by exact m_int)) (by exact m_mul (by exact m_int) (by exact m_var 1))) (by exact m_int)) (by exact a_cons (by exact m_int) a_nil))))))
theorem ff_law_take (T : Tx K mg) : ∃ fd, FF P w K mg base (cxK K) 1 "_law_take" (He.ga K "_law_take") fd ["tin", "below_so"] [true, false] c_law_take := by
  obtain ⟨fd, F⟩ := T.f_law_take
  have nd : List.Nodup (α := Str) ["tin", "below_so", "drawn_so", "once_so", "wide_so", "twice_so"] := by decide +kernel
  have Sc : FnScope ["tin", "below_so", "drawn_so", "once_so", "wide_so", "twice_so"] ["tin", "below_so"] (defScope s_law_take) := ⟨rfl, rfl, rfl, by decide +kernel, rfl, by decide +kernel, by decide +kernel⟩
  refine ⟨fd, ⟨fn_okT F Sc rfl fun cdv A outer s H E hr tk hp => ?_, T.g_law_take, F.kp, F.binds fun _ _ _ _ _ _ us hl => match us, hl with | [_, _], _ => rfl⟩⟩
  · exact s_cons (by exact s_if (by exact t_cmp ok_gt op_gt (by exact m_ix ok_ix ix_seq (by exact m_var 0) (by exact m_int)) (by exact m_int)) (by exact s_cons (by exact s_asg (i := 2) (by exact m_mod (by exact m_ct ok_int call_int1 T.n_int (by exact a_cons (by exact m_ix ok_ix ix_seq (by exact m_var 0) (by exact m_int)) a_nil)) (by exact m_var 1)) nd) (by exact s_cons (by exact s_setix (i := 0) (by exact m_div (by exact m_ix ok_ix ix_seq (by exact m_var 0) (by exact m_int)) (by exact m_var 1)) (by exact m_int)) (by exact s_one (by exact s_ret (by exact m_var 2))))) (by exact s_nil)) (by exact s_cons (by exact s_setix (i := 0) (by exact m_add (by exact m_ix ok_ix ix_seq (by exact m_var 0) (by exact m_int)) (by exact m_int)) (by exact m_int)) (by exact s_cons (by exact s_asg (i := 3) (by exact m_mod (by exact m_ct ok_int call_int1 T.n_int (by exact a_cons (by exact m_mul (by exact m_add (by exact m_ix ok_ix ix_seq (by exact m_var 0) (by exact m_int)) (by exact m_mul (by exact m_int) (by exact m_ix ok_ix ix_seq (by exact m_var 0) (by exact m_int)))) (by exact m_add (by exact m_int) (by exact m_ix ok_ix ix_seq (by exact m_var 0) (by exact m_int)))) a_nil)) (by exact m_int)) nd) (by exact s_cons (by exact s_asg (i := 4) (by exact m_add (by exact m_mod (by exact m_ct ok_int call_int1 T.n_int (by exact a_cons (by exact m_var 3) a_nil)) (by exact m_int)) (by exact m_int)) nd) (by exact s_cons (by exact s_asg (i := 5) (by exact m_mod (by exact m_ct ok_int call_int1 T.n_int (by exact a_cons (by exact m_mul (by exact m_add (by exact m_add (by exact m_var 3) (by exact m_ix ok_ix ix_seq (by exact m_var 0) (by exact m_int))) (by exact m_div (by exact m_ix ok_ix ix_seq (by exact m_var 0) (by exact m_int)) (by exact m_int))) (by exact m_var 4)) a_nil)) (by exact m_int)) nd) (by exact s_one (by exact s_ret (by exact m_mod (by exact m_ct ok_int call_int1 T.n_int (by exact a_cons (by exact m_div (by exact m_mod (by exact m_ct ok_int call_int1 T.n_int (by exact a_cons (by exact m_add (by exact m_mul (by exact m_var 5) (by exact m_int)) (by exact m_var 3)) a_nil)) (by exact m_int)) (by exact m_int)) a_nil)) (by exact m_var 1))))))))
theorem ff_law_cells (T : Tx K mg) : ∃ fd, FF P w K mg base (cxK K) 1 "_law_cells" (He.ga K "_law_cells") fd ["script", "most_so"] [false, false] c_law_cells := by
  obtain ⟨fd, F⟩ := T.f_law_cells
  have nd : List.Nodup (α := Str) ["script", "most_so", "cells_so", "k", "bit_so", "at_so"] := by decide +kernel
  have Sc : FnScope ["script", "most_so", "cells_so", "k", "bit_so", "at_so"] ["script", "most_so"] (defScope s_law_cells) := ⟨rfl, rfl, rfl, by decide +kernel, rfl, by decide +kernel, by decide +kernel⟩
  refine ⟨fd, ⟨fn_okT F Sc rfl fun cdv A outer s H E hr tk hp => ?_, T.g_law_cells, F.kp, F.binds fun _ _ _ _ _ _ us hl => match us, hl with | [_, _], _ => rfl⟩⟩
  · exact s_cons (by exact s_asg (i := 2) (by exact m_or (by exact m_ct ok_listA (call_listA rfl) T.n_list (by exact a_cons (by exact m_sl ok_sl sl_all (by exact m_var 0) p_no (by exact p_so (by exact m_var 1))) a_nil)) (by exact pe_one (by exact m_lst (by exact a_cons (by exact m_int) a_nil)))) nd) (by exact s_cons (by exact s_for hp (by exact i_enum (by exact m_sl ok_sl sl_all (by exact m_var 0) (by exact p_so (by exact m_var 1)) (by exact p_so (by exact m_int))) T.n_enumerate) (by exact g_tup (by exact gs_cons (by exact g_nm nd) (by exact gs_cons (by exact g_nm nd) gs_nil))) (by exact s_cons (by exact s_asg (i := 5) (by exact m_mod (by exact m_ct ok_int call_int1 T.n_int (by exact a_cons (by exact m_var 3) a_nil)) (by exact m_var 1)) nd) (by exact s_one (by exact s_setix (i := 2) (by exact m_add (by exact m_ix ok_ix ix_seq (by exact m_var 2) (by exact m_var 5)) (by exact m_mul (by exact m_var 4) (by exact m_add (by exact m_var 3) (by exact m_int)))) (by exact m_var 5))))) (by exact s_one (by exact s_ret (by exact m_var 2))))
theorem ff_law_of (T : Tx K mg) : ∃ fd, FF P w K mg base (cxK K) 2 "_law_of" (He.ga K "_law_of") fd ["tin", "goods_so"] [true, false] c_law_of := by
  obtain ⟨fd, F⟩ := T.f_law_of
  obtain ⟨fd_law_take, F_law_take⟩ := ff_law_take (P := P) (w := w) (base := base) T
  have nd : List.Nodup (α := Str) ["tin", "goods_so"] := by decide +kernel
  have Sc : FnScope ["tin", "goods_so"] ["tin", "goods_so"] (defScope s_law_of) := ⟨rfl, rfl, rfl, by decide +kernel, rfl, by decide +kernel, by decide +kernel⟩
  refine ⟨fd, ⟨fn_okT F Sc rfl fun cdv A outer s H E hr tk hp => ?_, T.g_law_of, F.kp, F.binds fun _ _ _ _ _ _ us hl => match us, hl with | [_, _], _ => rfl⟩⟩
  · exact s_one (by exact s_ret (by exact m_ix ok_ix ix_seq (by exact m_var 1) (by exact m_call F_law_take (hr.mono (by omega)) tk (by exact a_cons (by exact m_var 0) (by exact a_cons (by exact m_cb ok_len call_len T.n_len (by exact a_cons (by exact m_var 1) a_nil)) a_nil)))))
theorem ff_law_pick (T : Tx K mg) : ∃ fd, FF P w K mg base (cxK K) 2 "_law_pick" (He.ga K "_law_pick") fd ["tin", "goods_so", "count_so"] [true, false, false] c_law_pick := by
  obtain ⟨fd, F⟩ := T.f_law_pick
  obtain ⟨fd_law_take, F_law_take⟩ := ff_law_take (P := P) (w := w) (base := base) T
  have nd : List.Nodup (α := Str) ["tin", "goods_so", "count_so", "pool_so", "found", "lap"] := by decide +kernel
  have Sc : FnScope ["tin", "goods_so", "count_so", "pool_so", "found", "lap"] ["tin", "goods_so", "count_so"] (defScope s_law_pick) := ⟨rfl, rfl, rfl, by decide +kernel, rfl, by decide +kernel, by decide +kernel⟩
  refine ⟨fd, ⟨fn_okT F Sc rfl fun cdv A outer s H E hr tk hp => ?_, T.g_law_pick, F.kp, F.binds fun _ _ _ _ _ _ us hl => match us, hl with | [_, _, _], _ => rfl⟩⟩
  · exact s_cons (by exact s_par (i := 3) (j := 4) (by exact m_ct ok_listA (call_listA rfl) T.n_list (by exact a_cons (by exact m_var 1) a_nil)) (by exact m_lst (by exact a_nil)) nd rfl) (by exact s_cons (by exact s_for hp (by exact i_rng1 (by exact m_cb ok_min (call_min2 rfl) T.n_min (by exact a_cons (by exact m_ct ok_int call_int1 T.n_int (by exact a_cons (by exact m_var 2) a_nil)) (by exact a_cons (by exact m_cb ok_len call_len T.n_len (by exact a_cons (by exact m_var 3) a_nil)) a_nil))) T.n_range) (by exact g_nm nd) (by exact s_one (by exact s_expr (by exact m_mut (i := 4) mu_app PySem.F.slot_list_append PySem.F.type_list_append mt_append (by exact a_cons (by exact m_mut (i := 3) mu_pop PySem.F.slot_list_pop PySem.F.type_list_pop mt_popAt (by exact a_cons (by exact m_call F_law_take (hr.mono (by omega)) tk (by exact a_cons (by exact m_var 0) (by exact a_cons (by exact m_cb ok_len call_len T.n_len (by exact a_cons (by exact m_var 3) a_nil)) a_nil))) a_nil)) a_nil))))) (by exact s_one (by exact s_ret (by exact m_var 4))))
theorem ff_law_mixed (T : Tx K mg) : ∀ n : Nat, ∃ fd, FF P w K mg base (cxK K) (2 + n) "_law_mixed" (He.ga K "_law_mixed") fd ["tin", "matter"] [true, false] (c_law_mixed n)
  | 0 => by
    obtain ⟨fd, F⟩ := T.f_law_mixed
    have Sc : FnScope ["tin", "matter", "row_so", "bit"] ["tin", "matter"] (defScope s_law_mixed) := ⟨rfl, rfl, rfl, by decide +kernel, rfl, by decide +kernel, by decide +kernel⟩
    exact ⟨fd, ⟨fn_okT F Sc rfl fun cdv A outer s H E hr tk hp => ⟨fun pins s σ H D I h => by obtain ⟨_, _, _, _, z⟩ := h; exact z.elim⟩, T.g_law_mixed, F.kp, F.binds fun _ _ _ _ _ _ us hl => match us, hl with | [_, _], _ => rfl⟩⟩
  | n + 1 => by
    obtain ⟨fd, F⟩ := T.f_law_mixed
    obtain ⟨fd_law_mixed, F_law_mixed⟩ := ff_law_mixed T n
    obtain ⟨fd_law_take, F_law_take⟩ := ff_law_take (P := P) (w := w) (base := base) T
    have nd : List.Nodup (α := Str) ["tin", "matter", "row_so", "bit"] := by decide +kernel
    have Sc : FnScope ["tin", "matter", "row_so", "bit"] ["tin", "matter"] (defScope s_law_mixed) := ⟨rfl, rfl, rfl, by decide +kernel, rfl, by decide +kernel, by decide +kernel⟩
    refine ⟨fd, ⟨fn_okT (k := 2 + n) F Sc rfl fun cdv A outer s H E hr tk hp => ?_, T.g_law_mixed, F.kp, F.binds fun _ _ _ _ _ _ us hl => match us, hl with | [_, _], _ => rfl⟩⟩
    exact s_cons (by exact s_if (by exact t_not (by exact t_tst (by exact m_cb ok_isi call_isiA T.n_isinstance (by exact a_cons (by exact m_var 1) (by exact a_cons (by exact m_tup (by exact a_cons (by exact m_ty "list" T.n_list) (by exact a_cons (by exact m_ty "tuple" T.n_tuple) a_nil))) a_nil))))) (by exact s_one (by exact s_ret (by exact m_var 1))) (by exact s_nil)) (by exact s_cons (by exact s_asgLc (i := 2) nd (by exact i_val (by exact m_var 1)) (own := [("bit", 3)]) (by first | (show blkC ["tin", "matter", "row_so", "bit"] (defScope s_law_mixed) _ _ = true; decide +kernel) | decide +kernel | rfl) (fun _ _ _ _ _ => by exact g_nm nd) (fun _ _ _ _ _ => by exact t_yes) (fun _ _ _ _ _ => by exact m_call F_law_mixed (hr.mono (by omega)) takes0 (by exact a_cons (by exact m_var 0) (by exact a_cons (by exact m_var 3) a_nil))) (sw_true rfl rfl rfl rfl)) (by exact s_one (by exact s_ret (by exact m_ife (by exact t_cmp ok_eq (op_eqD (huR hr (by decide))) (by exact m_call F_law_take (hr.mono (by omega)) tk (by exact a_cons (by exact m_var 0) (by exact a_cons (by exact m_int) a_nil))) (by exact m_int)) (by exact m_var 2) (by exact m_ct ok_tuple call_tuple_of T.n_tuple (by exact a_cons (by exact m_var 2) a_nil))))))
theorem ff_law_same (T : Tx K mg) : ∀ n : Nat, ∃ fd, FF P w K mg base (cxK K) (1 + n) "_law_same" (He.ga K "_law_same") fd ["got", "due"] [false, false] (c_law_same n)
  | 0 => by
    obtain ⟨fd, F⟩ := T.f_law_same
    have Sc : FnScope ["got", "due", "mine", "its"] ["got", "due"] (defScope s_law_same) := ⟨rfl, rfl, rfl, by decide +kernel, rfl, by decide +kernel, by decide +kernel⟩
    exact ⟨fd, ⟨fn_okT F Sc rfl fun cdv A outer s H E hr tk hp => ⟨fun pins s σ H D I h => by obtain ⟨_, _, _, _, z⟩ := h; exact z.elim⟩, T.g_law_same, F.kp, F.binds fun _ _ _ _ _ _ us hl => match us, hl with | [_, _], _ => rfl⟩⟩
  | n + 1 => by
    obtain ⟨fd, F⟩ := T.f_law_same
    obtain ⟨fd_law_same, F_law_same⟩ := ff_law_same T n
    have nd : List.Nodup (α := Str) ["got", "due", "mine", "its"] := by decide +kernel
    have Sc : FnScope ["got", "due", "mine", "its"] ["got", "due"] (defScope s_law_same) := ⟨rfl, rfl, rfl, by decide +kernel, rfl, by decide +kernel, by decide +kernel⟩
    refine ⟨fd, ⟨fn_okT (k := 1 + n) F Sc rfl fun cdv A outer s H E hr tk hp => ?_, T.g_law_same, F.kp, F.binds fun _ _ _ _ _ _ us hl => match us, hl with | [_, _], _ => rfl⟩⟩
    exact s_cons (by exact s_if (by exact t_tst (by exact m_cb ok_isi call_isiA T.n_isinstance (by exact a_cons (by exact m_var 1) (by exact a_cons (by exact m_tup (by exact a_cons (by exact m_ty "list" T.n_list) (by exact a_cons (by exact m_ty "tuple" T.n_tuple) a_nil))) a_nil)))) (by exact s_cons (by exact s_if (by exact t_bool (by exact t_or (by exact t_cmp ok_ne (op_neD (huR hr (by decide))) (by exact m_cb ok_isi call_isiA T.n_isinstance (by exact a_cons (by exact m_var 0) (by exact a_cons (by exact m_ty "list" T.n_list) a_nil))) (by exact m_cb ok_isi call_isiA T.n_isinstance (by exact a_cons (by exact m_var 1) (by exact a_cons (by exact m_ty "list" T.n_list) a_nil)))) (by exact t_or1 (by exact t_cmp ok_ne (op_neD (huR hr (by decide))) (by exact m_cb ok_isi call_isiA T.n_isinstance (by exact a_cons (by exact m_var 0) (by exact a_cons (by exact m_ty "tuple" T.n_tuple) a_nil))) (by exact m_cb ok_isi call_isiA T.n_isinstance (by exact a_cons (by exact m_var 1) (by exact a_cons (by exact m_ty "tuple" T.n_tuple) a_nil))))))) (by exact s_one (by exact s_ret (by exact m_bl))) (by exact s_nil)) (by exact s_one (by exact s_ret (by exact m_and (by exact m_cmp ok_eq (op_eqD (huR hr (by decide))) (by exact m_cb ok_len call_len T.n_len (by exact a_cons (by exact m_var 0) a_nil)) (by exact m_cb ok_len call_len T.n_len (by exact a_cons (by exact m_var 1) a_nil))) (by exact pe_one (by exact m_cb ok_all (cr_all rfl) T.n_all (by exact a_cons (by exact m_lc nd (by exact i_zip (by exact m_var 0) (by exact m_var 1) T.n_zip) (own := [("mine", 2), ("its", 3)]) (by first | (show blkC ["got", "due", "mine", "its"] (defScope s_law_same) _ _ = true; decide +kernel) | decide +kernel | rfl) (fun _ _ _ _ _ => by exact g_tup (by exact gs_cons (by exact g_nm nd) (by exact gs_cons (by exact g_nm nd) gs_nil))) (fun _ _ _ _ _ => by exact t_yes) (fun _ _ _ _ _ => by exact m_call F_law_same (hr.mono (by omega)) takes0 (by exact a_cons (by exact m_var 2) (by exact a_cons (by exact m_var 3) a_nil)))) a_nil))))))) (by exact s_nil)) (by exact s_cons (by exact s_if (by exact t_cmp ok_isN op_isN (by exact m_var 1) (by exact m_non)) (by exact s_one (by exact s_ret (by exact m_cmp ok_isN op_isN (by exact m_var 0) (by exact m_non)))) (by exact s_nil)) (by exact s_cons (by exact s_if (by exact t_tst (by exact m_cb ok_isi call_isiA T.n_isinstance (by exact a_cons (by exact m_var 1) (by exact a_cons (by exact m_tup (by exact a_cons (by exact m_ty "bool" T.n_bool) (by exact a_cons (by exact m_ty "str" T.n_str) a_nil))) a_nil)))) (by exact s_one (by exact s_ret (by exact m_and (by exact m_cmp ok_eq (op_eqD (huR hr (by decide))) (by exact m_cb ok_isi call_isiA T.n_isinstance (by exact a_cons (by exact m_var 0) (by exact a_cons (by exact m_ty "bool" T.n_bool) a_nil))) (by exact m_cb ok_isi call_isiA T.n_isinstance (by exact a_cons (by exact m_var 1) (by exact a_cons (by exact m_ty "bool" T.n_bool) a_nil)))) (by exact m_and (by exact m_cmp ok_eq (op_eqD (huR hr (by decide))) (by exact m_cb ok_isi call_isiA T.n_isinstance (by exact a_cons (by exact m_var 0) (by exact a_cons (by exact m_ty "str" T.n_str) a_nil))) (by exact m_cb ok_isi call_isiA T.n_isinstance (by exact a_cons (by exact m_var 1) (by exact a_cons (by exact m_ty "str" T.n_str) a_nil)))) (by exact pe_one (by exact m_cmp ok_eq (op_eqD (huR hr (by decide))) (by exact m_var 0) (by exact m_var 1))))))) (by exact s_nil)) (by exact s_one (by exact s_ret (by exact m_and (by exact m_cb ok_isi call_isiA T.n_isinstance (by exact a_cons (by exact m_var 0) (by exact a_cons (by exact m_ty "int" T.n_int) a_nil))) (by exact m_and (by exact m_not (by exact m_cb ok_isi call_isiA T.n_isinstance (by exact a_cons (by exact m_var 0) (by exact a_cons (by exact m_ty "bool" T.n_bool) a_nil)))) (by exact pe_one (by exact m_cmp ok_eq (op_eqD (huR hr (by decide))) (by exact m_var 0) (by exact m_var 1)))))))))
theorem ff_law_unmarked (T : Tx K mg) : ∃ fd, FF P w K mg base (cxK K) 1 "_law_unmarked" (He.ga K "_law_unmarked") fd ["told_so"] [false] c_law_unmarked := by
  obtain ⟨fd, F⟩ := T.f_law_unmarked
  have nd : List.Nodup (α := Str) ["told_so"] := by decide +kernel
  have Sc : FnScope ["told_so"] ["told_so"] (defScope s_law_unmarked) := ⟨rfl, rfl, rfl, by decide +kernel, rfl, by decide +kernel, by decide +kernel⟩
  refine ⟨fd, ⟨fn_okT F Sc rfl fun cdv A outer s H E hr tk hp => ?_, T.g_law_unmarked, F.kp, F.binds fun _ _ _ _ _ _ us hl => match us, hl with | [_], _ => rfl⟩⟩
  · exact s_cons (by exact s_if (by exact t_bool (by exact t_and (by exact t_tst (by exact m_cb ok_isi call_isiA T.n_isinstance (by exact a_cons (by exact m_var 0) (by exact a_cons (by exact m_ty "list" T.n_list) a_nil)))) (by exact t_and (by exact t_cmp ok_gt op_gt (by exact m_cb ok_len call_len T.n_len (by exact a_cons (by exact m_var 0) a_nil)) (by exact m_int)) (by exact t_and1 (by exact t_tst (by exact m_cb ok_isi call_isiA T.n_isinstance (by exact a_cons (by exact m_ix ok_ix ix_seq (by exact m_var 0) (by exact m_int)) (by exact a_cons (by exact m_ty "str" T.n_str) a_nil)))))))) (by exact s_one (by exact s_ret (by exact m_lst (by exact a_cons (by exact m_str [116, 111, 108, 100]) (by exact a_cons (by exact m_str [97, 32, 109, 97, 114, 107]) a_nil))))) (by exact s_nil)) (by exact s_one (by exact s_ret (by exact m_var 0)))
theorem ff_law_ahead (T : Tx K mg) : ∃ fd, FF P w K mg base (cxK K) 1 "_law_ahead" (He.ga K "_law_ahead") fd ["letters_so", "one", "two"] [false, false, false] c_law_ahead := by
  obtain ⟨fd, F⟩ := T.f_law_ahead
  have nd : List.Nodup (α := Str) ["letters_so", "one", "two", "near", "own"] := by decide +kernel
  have Sc : FnScope ["letters_so", "one", "two", "near", "own"] ["letters_so", "one", "two"] (defScope s_law_ahead) := ⟨rfl, rfl, rfl, by decide +kernel, rfl, by decide +kernel, by decide +kernel⟩
  refine ⟨fd, ⟨fn_okT F Sc rfl fun cdv A outer s H E hr tk hp => ?_, T.g_law_ahead, F.kp, F.binds fun _ _ _ _ _ _ us hl => match us, hl with | [_, _, _], _ => rfl⟩⟩
  · exact s_cons (by exact s_asg (i := 3) (by exact m_tup (by exact a_cons (by exact m_cb ok_len call_len T.n_len (by exact a_cons (by exact m_var 1) a_nil)) (by exact a_cons (by exact m_lc nd (by exact i_val (by exact m_var 1)) (own := [("own", 4)]) (by first | (show blkC ["letters_so", "one", "two", "near", "own"] (defScope s_law_ahead) _ _ = true; decide +kernel) | decide +kernel | rfl) (fun _ _ _ _ _ => by exact g_nm nd) (fun _ _ _ _ _ => by exact t_yes) (fun _ _ _ _ _ => by exact m_sm ok_index PySem.F.slot_str_index PySem.F.type_str_index mt_sindex (by exact m_var 0) (by exact m_var 4))) a_nil))) nd) (by exact s_one (by exact s_ret (by exact m_cmp ok_ltD (op_ltP (huR hr (by decide))) (by exact m_var 3) (by exact m_tup (by exact a_cons (by exact m_cb ok_len call_len T.n_len (by exact a_cons (by exact m_var 2) a_nil)) (by exact a_cons (by exact m_lc nd (by exact i_val (by exact m_var 2)) (own := [("own", 4)]) (by first | (show blkC ["letters_so", "one", "two", "near", "own"] (defScope s_law_ahead) _ _ = true; decide +kernel) | decide +kernel | rfl) (fun _ _ _ _ _ => by exact g_nm nd) (fun _ _ _ _ _ => by exact t_yes) (fun _ _ _ _ _ => by exact m_sm ok_index PySem.F.slot_str_index PySem.F.type_str_index mt_sindex (by exact m_var 0) (by exact m_var 4))) a_nil))))))
theorem ff_law_ordered (T : Tx K mg) : ∃ fd, FF P w K mg base (cxK K) 2 "_law_ordered" (He.ga K "_law_ordered") fd ["letters_so", "rules_so"] [false, false] c_law_ordered := by
  obtain ⟨fd, F⟩ := T.f_law_ordered
  obtain ⟨fd_law_ahead, F_law_ahead⟩ := ff_law_ahead (P := P) (w := w) (base := base) T
  have nd : List.Nodup (α := Str) ["letters_so", "rules_so", "found", "rule_so", "place_so", "own"] := by decide +kernel
  have Sc : FnScope ["letters_so", "rules_so", "found", "rule_so", "place_so", "own"] ["letters_so", "rules_so"] (defScope s_law_ordered) := ⟨rfl, rfl, rfl, by decide +kernel, rfl, by decide +kernel, by decide +kernel⟩
  refine ⟨fd, ⟨fn_okT F Sc rfl fun cdv A outer s H E hr tk hp => ?_, T.g_law_ordered, F.kp, F.binds fun _ _ _ _ _ _ us hl => match us, hl with | [_, _], _ => rfl⟩⟩
  · exact s_cons (by exact s_asg (i := 2) (by exact m_lst (by exact a_nil)) nd) (by exact s_cons (by exact s_for hp (by exact i_val (by exact m_var 1)) (by exact g_nm nd) (by exact s_cons (by exact s_asg (i := 4) (by exact m_cb ok_len call_len T.n_len (by exact a_cons (by exact m_lc nd (by exact i_val (by exact m_var 2)) (own := [("own", 5)]) (by first | (show blkC ["letters_so", "rules_so", "found", "rule_so", "place_so", "own"] (defScope s_law_ordered) _ _ = true; decide +kernel) | decide +kernel | rfl) (fun _ _ _ _ _ => by exact g_nm nd) (fun _ _ _ _ _ => by exact t_ifs (by exact t_tst (by exact m_call F_law_ahead (hr.mono (by omega)) takes0 (by exact a_cons (by exact m_var 0) (by exact a_cons (by exact m_ix ok_ix ix_seq (by exact m_var 5) (by exact m_int)) (by exact a_cons (by exact m_ix ok_ix ix_seq (by exact m_var 3) (by exact m_int)) a_nil)))))) (fun _ _ _ _ _ => by exact m_var 5)) a_nil)) nd) (by exact s_one (by exact s_asg (i := 2) (by exact m_add (by exact m_add (by exact m_sl ok_sl sl_all (by exact m_var 2) p_no (by exact p_so (by exact m_var 4))) (by exact m_lst (by exact a_cons (by exact m_var 3) a_nil))) (by exact m_sl ok_sl sl_all (by exact m_var 2) (by exact p_so (by exact m_var 4)) p_no)) nd)))) (by exact s_one (by exact s_ret (by exact m_ct ok_tuple call_tuple_of T.n_tuple (by exact a_cons (by exact m_var 2) a_nil)))))
theorem ff_law_some_word (T : Tx K mg) : ∃ fd, FF P w K mg base (cxK K) 3 "_law_some_word" (He.ga K "_law_some_word") fd ["tin", "letters_so", "most_so"] [true, false, false] c_law_some_word := by
  obtain ⟨fd, F⟩ := T.f_law_some_word
  obtain ⟨fd_law_take, F_law_take⟩ := ff_law_take (P := P) (w := w) (base := base) T
  obtain ⟨fd_law_of, F_law_of⟩ := ff_law_of (P := P) (w := w) (base := base) T
  have nd : List.Nodup (α := Str) ["tin", "letters_so", "most_so", "lap"] := by decide +kernel
  have Sc : FnScope ["tin", "letters_so", "most_so", "lap"] ["tin", "letters_so", "most_so"] (defScope s_law_some_word) := ⟨rfl, rfl, rfl, by decide +kernel, rfl, by decide +kernel, by decide +kernel⟩
  refine ⟨fd, ⟨fn_okT F Sc rfl fun cdv A outer s H E hr tk hp => ?_, T.g_law_some_word, F.kp, F.binds fun _ _ _ _ _ _ us hl => match us, hl with | [_, _, _], _ => rfl⟩⟩
  · exact s_one (by exact s_ret (by exact m_sm ok_join PySem.F.slot_str_join PySem.F.type_str_join mt_join (by exact m_str []) (by exact m_lc nd (by exact i_rng1 (by exact m_call F_law_take (hr.mono (by omega)) tk (by exact a_cons (by exact m_var 0) (by exact a_cons (by exact m_add (by exact m_var 2) (by exact m_int)) a_nil))) T.n_range) (own := [("lap", 3)]) (by first | (show blkC ["tin", "letters_so", "most_so", "lap"] (defScope s_law_some_word) _ _ = true; decide +kernel) | decide +kernel | rfl) (fun _ _ _ _ _ => by exact g_nm nd) (fun _ _ _ _ _ => by exact t_yes) (fun _ _ _ _ _ => by exact m_call F_law_of (hr.mono (by omega)) takes0 (by exact a_cons (by exact m_var 0) (by exact a_cons (by exact m_var 1) a_nil))))))
theorem ff_law_heard (T : Tx K mg) : ∃ fd, FF P w K mg base (cxK K) 11 "_law_heard" (He.ga K "_law_heard") fd ["letters_so", "pairs_so"] [false, false] c_law_heard := by
  obtain ⟨fd, F⟩ := T.f_law_heard
  obtain ⟨fd_book_of, F_book_of⟩ := ff_book_of (P := P) (w := w) (base := base) T
  obtain ⟨fd_law_unmarked, F_law_unmarked⟩ := ff_law_unmarked (P := P) (w := w) (base := base) T
  have nd : List.Nodup (α := Str) ["letters_so", "pairs_so", "slip_so"] := by decide +kernel
  have Sc : FnScope ["letters_so", "pairs_so", "slip_so"] ["letters_so", "pairs_so"] (defScope s_law_heard) := ⟨rfl, rfl, rfl, by decide +kernel, rfl, by decide +kernel, by decide +kernel⟩
  refine ⟨fd, ⟨fn_okT F Sc rfl fun cdv A outer s H E hr tk hp => ?_, T.g_law_heard, F.kp, F.binds fun _ _ _ _ _ _ us hl => match us, hl with | [_, _], _ => rfl⟩⟩
  · exact s_one (by exact s_try (c := 0) (i := 2) rfl rfl nd T.x_CanNot.gl tk T.exm_CanNot (fun _ _ _ tk' hp' => by exact s_one (by exact s_ret (by exact m_call F_law_unmarked (hr.mono (by omega)) tk' (by exact a_cons (by exact m_call F_book_of (hr.mono (by omega)) tk' (by exact a_cons (by exact m_var 0) (by exact a_cons (by exact m_var 1) a_nil))) a_nil)))) (fun a oe pn hz hf => by exact s_one (by exact s_ret (by exact m_lst (by exact a_cons (by exact m_str [99, 97, 110, 110, 111, 116]) (by exact a_cons (by exact m_isE (ty := "ValueError") T.ec_CanNot hz hf T.ev_CanNot T.n_isinstance T.n_ValueError) a_nil)) (hl := by show 2 ≤ 1000; decide)))) (par_lst _ _ _))
theorem ff_law_right (T : Tx K mg) : ∃ fd, FF P w K mg base (cxK K) 12 "_law_right" (He.ga K "_law_right") fd ["tin"] [true] c_law_right := by
  obtain ⟨fd, F⟩ := T.f_law_right
  obtain ⟨fd_is_book, F_is_book⟩ := ff_is_book (P := P) (w := w) (base := base) T
  obtain ⟨fd_law_take, F_law_take⟩ := ff_law_take (P := P) (w := w) (base := base) T
  obtain ⟨fd_law_of, F_law_of⟩ := ff_law_of (P := P) (w := w) (base := base) T
  obtain ⟨fd_law_pick, F_law_pick⟩ := ff_law_pick (P := P) (w := w) (base := base) T
  obtain ⟨fd_law_mixed, F_law_mixed⟩ := ff_law_mixed (P := P) (w := w) (base := base) T 8
  obtain ⟨fd_law_same, F_law_same⟩ := ff_law_same (P := P) (w := w) (base := base) T 8
  obtain ⟨fd_law_ahead, F_law_ahead⟩ := ff_law_ahead (P := P) (w := w) (base := base) T
  obtain ⟨fd_law_ordered, F_law_ordered⟩ := ff_law_ordered (P := P) (w := w) (base := base) T
  obtain ⟨fd_law_some_word, F_law_some_word⟩ := ff_law_some_word (P := P) (w := w) (base := base) T
  obtain ⟨fd_law_heard, F_law_heard⟩ := ff_law_heard (P := P) (w := w) (base := base) T
  have nd : List.Nodup (α := Str) ["tin", "letters_so", "lap", "pairs_so", "rules_so", "one", "two", "own", "lefts_so", "due", "loose_so", "rows_so", "got", "turned_so", "left_so", "right_so", "bents_so", "things_so", "turn"] := by decide +kernel
  have Sc : FnScope ["tin", "letters_so", "lap", "pairs_so", "rules_so", "one", "two", "own", "lefts_so", "due", "loose_so", "rows_so", "got", "turned_so", "left_so", "right_so", "bents_so", "things_so", "turn"] ["tin"] (defScope s_law_right) := ⟨rfl, rfl, rfl, by decide +kernel, rfl, by decide +kernel, by decide +kernel⟩
  refine ⟨fd, ⟨fn_okT F Sc rfl fun cdv A outer s H E hr tk hp => ?_, T.g_law_right, F.kp, F.binds fun _ _ _ _ _ _ us hl => match us, hl with | [_], _ => rfl⟩⟩
  · exact s_cons (by exact s_asg (i := 1) (by exact m_sm ok_join PySem.F.slot_str_join PySem.F.type_str_join mt_join (by exact m_str []) (by exact m_call F_law_pick (hr.mono (by omega)) tk (by exact a_cons (by exact m_var 0) (by exact a_cons (by exact m_str [97, 98, 99]) (by exact a_cons (by exact m_add (by exact m_int) (by exact m_call F_law_take (hr.mono (by omega)) tk (by exact a_cons (by exact m_var 0) (by exact a_cons (by exact m_int) a_nil)))) a_nil))))) nd) (by exact s_cons (by exact s_for hp (by exact i_rng1 (by exact m_int) T.n_range) (by exact g_nm nd) (by exact s_cons (by exact s_asgLc (i := 3) nd (by exact i_rng1 (by exact m_call F_law_take (hr.mono (by omega)) tk (by exact a_cons (by exact m_var 0) (by exact a_cons (by exact m_int) a_nil))) T.n_range) (own := [("turn", 18)]) (by first | (show blkC ["tin", "letters_so", "lap", "pairs_so", "rules_so", "one", "two", "own", "lefts_so", "due", "loose_so", "rows_so", "got", "turned_so", "left_so", "right_so", "bents_so", "things_so", "turn"] (defScope s_law_right) _ _ = true; decide +kernel) | decide +kernel | rfl) (fun _ _ _ _ _ => by exact g_nm nd) (fun _ _ _ _ _ => by exact t_yes) (fun _ _ _ _ _ => by exact m_tup (by exact a_cons (by exact m_call F_law_some_word (hr.mono (by omega)) takes0 (by exact a_cons (by exact m_var 0) (by exact a_cons (by exact m_var 1) (by exact a_cons (by exact m_int) a_nil)))) (by exact a_cons (by exact m_call F_law_some_word (hr.mono (by omega)) takes0 (by exact a_cons (by exact m_var 0) (by exact a_cons (by exact m_var 1) (by exact a_cons (by exact m_int) a_nil)))) a_nil))) (sw_true rfl rfl rfl rfl)) (by exact s_cons (by exact s_asgLc (i := 3) nd (by exact i_val (by exact m_var 3)) (own := [("own", 7)]) (by first | (show blkC ["tin", "letters_so", "lap", "pairs_so", "rules_so", "one", "two", "own", "lefts_so", "due", "loose_so", "rows_so", "got", "turned_so", "left_so", "right_so", "bents_so", "things_so", "turn"] (defScope s_law_right) _ _ = true; decide +kernel) | decide +kernel | rfl) (fun _ _ _ _ _ => by exact g_nm nd) (fun _ _ _ _ _ => by exact t_ifs (by exact t_cmp ok_ne (op_neD (huR hr (by decide))) (by exact m_ix ok_ix ix_seq (by exact m_var 7) (by exact m_int)) (by exact m_ix ok_ix ix_seq (by exact m_var 7) (by exact m_int)))) (fun _ _ _ _ _ => by exact m_var 7) (sw_true rfl rfl rfl rfl)) (by exact s_cons (by exact s_asg (i := 4) (by exact m_lst (by exact a_nil)) nd) (by exact s_cons (by exact s_for hp (by exact i_val (by exact m_var 3)) (by exact g_tup (by exact gs_cons (by exact g_nm nd) (by exact gs_cons (by exact g_nm nd) gs_nil))) (by exact s_cons (by exact s_asg (i := 7) (by exact m_ife (by exact t_tst (by exact m_call F_law_ahead (hr.mono (by omega)) tk (by exact a_cons (by exact m_var 1) (by exact a_cons (by exact m_var 5) (by exact a_cons (by exact m_var 6) a_nil))))) (by exact m_tup (by exact a_cons (by exact m_var 6) (by exact a_cons (by exact m_var 5) a_nil))) (by exact m_tup (by exact a_cons (by exact m_var 5) (by exact a_cons (by exact m_var 6) a_nil)))) nd) (by exact s_one (by exact s_asg (i := 4) (by exact m_add (by exact m_var 4) (by exact m_ife (by exact t_cmp ok_ni (op_notin_str.or (op_notInD (huR hr (by decide)))) (by exact m_var 7) (by exact m_var 4)) (by exact m_lst (by exact a_cons (by exact m_var 7) a_nil)) (by exact m_lst (by exact a_nil)))) nd)))) (by exact s_cons (by exact s_asgLc (i := 8) nd (by exact i_val (by exact m_var 4)) (own := [("own", 7)]) (by first | (show blkC ["tin", "letters_so", "lap", "pairs_so", "rules_so", "one", "two", "own", "lefts_so", "due", "loose_so", "rows_so", "got", "turned_so", "left_so", "right_so", "bents_so", "things_so", "turn"] (defScope s_law_right) _ _ = true; decide +kernel) | decide +kernel | rfl) (fun _ _ _ _ _ => by exact g_nm nd) (fun _ _ _ _ _ => by exact t_yes) (fun _ _ _ _ _ => by exact m_ix ok_ix ix_seq (by exact m_var 7) (by exact m_int)) (sw_true rfl rfl rfl rfl)) (by exact s_cons (by exact s_asg (i := 9) (by exact m_ife (by exact t_cmp ok_eq (op_eqD (huR hr (by decide))) (by exact m_lenSet rfl T.n_len T.n_set (by exact m_var 8)) (by exact m_cb ok_len call_len T.n_len (by exact a_cons (by exact m_var 8) a_nil))) (by exact m_tup (by exact a_cons (by exact m_var 1) (by exact a_cons (by exact m_call F_law_ordered (hr.mono (by omega)) tk (by exact a_cons (by exact m_var 1) (by exact a_cons (by exact m_var 4) a_nil))) a_nil))) (by exact m_lst (by exact a_cons (by exact m_str [99, 97, 110, 110, 111, 116]) (by exact a_cons (by exact m_bl) a_nil)))) nd) (by exact s_cons (by exact s_asg (i := 10) (by exact m_call F_law_mixed (hr.mono (by omega)) tk (by exact a_cons (by exact m_var 0) (by exact a_cons (by exact m_ct ok_tuple call_tuple_of T.n_tuple (by exact a_cons (by exact m_lc nd (by exact i_val (by exact m_var 3)) (own := [("own", 7)]) (by first | (show blkC ["tin", "letters_so", "lap", "pairs_so", "rules_so", "one", "two", "own", "lefts_so", "due", "loose_so", "rows_so", "got", "turned_so", "left_so", "right_so", "bents_so", "things_so", "turn"] (defScope s_law_right) _ _ = true; decide +kernel) | decide +kernel | rfl) (fun _ _ _ _ _ => by exact g_nm nd) (fun _ _ _ _ _ => by exact t_yes) (fun _ _ _ _ _ => by exact m_ife (by exact t_cmp ok_eq (op_eqD (huR hr (by decide))) (by exact m_call F_law_take (hr.mono (by omega)) takes0 (by exact a_cons (by exact m_var 0) (by exact a_cons (by exact m_int) a_nil))) (by exact m_int)) (by exact m_var 7) (by exact m_rev (by exact m_var 7)))) a_nil)) a_nil))) nd) (by exact s_cons (by exact s_if (by exact t_not (by exact t_tst (by exact m_call F_law_same (hr.mono (by omega)) tk (by exact a_cons (by exact m_lst (by exact a_cons (by exact m_call F_law_heard (hr.mono (by omega)) tk (by exact a_cons (by exact m_var 1) (by exact a_cons (by exact m_var 10) a_nil))) (by exact a_cons (by exact m_call F_law_heard (hr.mono (by omega)) tk (by exact a_cons (by exact m_var 1) (by exact a_cons (by exact m_add (by exact m_var 3) (by exact m_var 3)) a_nil))) a_nil))) (by exact a_cons (by exact m_lst (by exact a_cons (by exact m_var 9) (by exact a_cons (by exact m_var 9) a_nil))) a_nil))))) (by exact s_one (by exact s_ret (by exact m_bl))) (by exact s_nil)) (by exact s_one (by exact s_if (by exact t_tst (by exact m_cb ok_isi call_isiA T.n_isinstance (by exact a_cons (by exact m_var 9) (by exact a_cons (by exact m_ty "tuple" T.n_tuple) a_nil)))) (by exact s_cons (by exact s_asg (i := 11) (by exact m_ix ok_ix ix_seq (by exact m_var 9) (by exact m_int)) nd) (by exact s_cons (by exact s_asg (i := 12) (by exact m_lst (by exact a_cons (by exact m_call F_is_book (hr.mono (by omega)) tk (by exact a_cons (by exact m_var 9) a_nil)) (by exact a_cons (by exact m_call F_is_book (hr.mono (by omega)) tk (by exact a_cons (by exact m_ct ok_listA (call_listA rfl) T.n_list (by exact a_cons (by exact m_var 9) a_nil)) a_nil)) (by exact a_cons (by exact m_call F_is_book (hr.mono (by omega)) tk (by exact a_cons (by exact m_tup (by exact a_cons (by exact m_var 1) (by exact a_cons (by exact m_ct ok_listA (call_listA rfl) T.n_list (by exact a_cons (by exact m_var 11) a_nil)) a_nil))) a_nil)) (by exact a_cons (by exact m_call F_is_book (hr.mono (by omega)) tk (by exact a_cons (by exact m_tup (by exact a_cons (by exact m_var 1) (by exact a_cons (by exact m_add (by exact m_var 11) (by exact m_tup (by exact a_cons (by exact m_tup (by exact a_cons (by exact m_str []) (by exact a_cons (by exact m_ix ok_ix ix_seq (by exact m_var 1) (by exact m_int)) a_nil))) a_nil))) a_nil))) a_nil)) a_nil))))) nd) (by exact s_cons (by exact s_if (by exact t_not (by exact t_tst (by exact m_call F_law_same (hr.mono (by omega)) tk (by exact a_cons (by exact m_var 12) (by exact a_cons (by exact m_lst (by exact a_cons (by exact m_bl) (by exact a_cons (by exact m_bl) (by exact a_cons (by exact m_bl) (by exact a_cons (by exact m_bl) a_nil))))) a_nil))))) (by exact s_one (by exact s_ret (by exact m_bl))) (by exact s_nil)) (by exact s_cons (by exact s_asg (i := 13) (by exact m_lst (by exact a_cons (by exact m_rev (by exact m_var 11)) (by exact a_cons (by exact m_add (by exact m_sl ok_sl sl_all (by exact m_var 11) (by exact p_so (by exact m_int)) p_no) (by exact m_sl ok_sl sl_all (by exact m_var 11) p_no (by exact p_so (by exact m_int)))) (by exact a_cons (by exact m_add (by exact m_var 11) (by exact m_sl ok_sl sl_all (by exact m_var 11) (by exact p_so (by exact m_neg (by exact m_int))) p_no)) a_nil)))) nd) (by exact s_cons (by exact s_if (by exact t_bool (by exact t_and (by exact t_cmp ok_gt op_gt (by exact m_cb ok_len call_len T.n_len (by exact a_cons (by exact m_var 11) a_nil)) (by exact m_int)) (by exact t_and1 (by exact t_not (by exact t_tst (by exact m_call F_law_same (hr.mono (by omega)) tk (by exact a_cons (by exact m_lc nd (by exact i_val (by exact m_var 13)) (own := [("own", 7)]) (by first | (show blkC ["tin", "letters_so", "lap", "pairs_so", "rules_so", "one", "two", "own", "lefts_so", "due", "loose_so", "rows_so", "got", "turned_so", "left_so", "right_so", "bents_so", "things_so", "turn"] (defScope s_law_right) _ _ = true; decide +kernel) | decide +kernel | rfl) (fun _ _ _ _ _ => by exact g_nm nd) (fun _ _ _ _ _ => by exact t_yes) (fun _ _ _ _ _ => by exact m_call F_is_book (hr.mono (by omega)) takes0 (by exact a_cons (by exact m_tup (by exact a_cons (by exact m_var 1) (by exact a_cons (by exact m_var 7) a_nil))) a_nil))) (by exact a_cons (by exact m_mul (by exact m_lst (by exact a_cons (by exact m_bl) a_nil)) (by exact m_int)) a_nil)))))))) (by exact s_one (by exact s_ret (by exact m_bl))) (by exact s_nil)) (by exact s_one (by exact s_if (by exact t_cmp ok_ne (op_neD (huR hr (by decide))) (by exact m_var 11) (by exact m_tup (by exact a_nil))) (by exact s_cons (by exact s_tgt (by exact m_call F_law_of (hr.mono (by omega)) tk (by exact a_cons (by exact m_var 0) (by exact a_cons (by exact m_var 11) a_nil))) (by exact g_tup (by exact gs_cons (by exact g_nm nd) (by exact gs_cons (by exact g_nm nd) gs_nil)))) (by exact s_cons (by exact s_asg (i := 16) (by exact m_lst (by exact a_cons (by exact m_tup (by exact a_cons (by exact m_var 14) (by exact a_cons (by exact m_var 14) a_nil))) (by exact a_cons (by exact m_tup (by exact a_cons (by exact m_var 15) (by exact a_cons (by exact m_var 14) a_nil))) (by exact a_cons (by exact m_tup (by exact a_cons (by exact m_var 14) a_nil)) (by exact a_cons (by exact m_tup (by exact a_cons (by exact m_var 14) (by exact a_cons (by exact m_var 15) (by exact a_cons (by exact m_str []) a_nil)))) (by exact a_cons (by exact m_lst (by exact a_cons (by exact m_var 14) (by exact a_cons (by exact m_var 15) a_nil))) (by exact a_cons (by exact m_tup (by exact a_cons (by exact m_add (by exact m_var 14) (by exact m_str [109])) (by exact a_cons (by exact m_var 15) a_nil))) (by exact a_cons (by exact m_tup (by exact a_cons (by exact m_var 14) (by exact a_cons (by exact m_non) a_nil))) (by exact a_cons (by exact m_tup (by exact a_cons (by exact m_int) (by exact a_cons (by exact m_var 15) a_nil))) a_nil))))))))) nd) (by exact s_one (by exact s_if (by exact t_bool (by exact t_or (by exact t_not (by exact t_tst (by exact m_call F_law_same (hr.mono (by omega)) tk (by exact a_cons (by exact m_lc nd (by exact i_val (by exact m_var 16)) (own := [("own", 7)]) (by first | (show blkC ["tin", "letters_so", "lap", "pairs_so", "rules_so", "one", "two", "own", "lefts_so", "due", "loose_so", "rows_so", "got", "turned_so", "left_so", "right_so", "bents_so", "things_so", "turn"] (defScope s_law_right) _ _ = true; decide +kernel) | decide +kernel | rfl) (fun _ _ _ _ _ => by exact g_nm nd) (fun _ _ _ _ _ => by exact t_yes) (fun _ _ _ _ _ => by exact m_call F_is_book (hr.mono (by omega)) takes0 (by exact a_cons (by exact m_tup (by exact a_cons (by exact m_var 1) (by exact a_cons (by exact m_tup (by exact a_cons (by exact m_var 7) a_nil)) a_nil))) a_nil))) (by exact a_cons (by exact m_mul (by exact m_lst (by exact a_cons (by exact m_bl) a_nil)) (by exact m_int)) a_nil))))) (by exact t_or1 (by exact t_not (by exact t_tst (by exact m_call F_is_book (hr.mono (by omega)) tk (by exact a_cons (by exact m_tup (by exact a_cons (by exact m_var 1) (by exact a_cons (by exact m_tup (by exact a_cons (by exact m_tup (by exact a_cons (by exact m_var 14) (by exact a_cons (by exact m_var 15) a_nil))) a_nil)) a_nil))) a_nil))))))) (by exact s_one (by exact s_ret (by exact m_bl))) (by exact s_nil))))) (by exact s_nil)))))))) (by exact s_nil)))))))))))) (by exact s_cons (by exact s_asg (i := 17) (by exact m_lst (by exact a_cons (by exact m_non) (by exact a_cons (by exact m_int) (by exact a_cons (by exact m_str [97, 98]) (by exact a_cons (by exact m_tup (by exact a_nil)) (by exact a_cons (by exact m_tup (by exact a_cons (by exact m_str [97, 98]) a_nil)) (by exact a_cons (by exact m_tup (by exact a_cons (by exact m_str [97, 98]) (by exact a_cons (by exact m_tup (by exact a_nil)) (by exact a_cons (by exact m_tup (by exact a_nil)) a_nil)))) (by exact a_cons (by exact m_tup (by exact a_cons (by exact m_str [97, 97]) (by exact a_cons (by exact m_tup (by exact a_nil)) a_nil))) (by exact a_cons (by exact m_tup (by exact a_cons (by exact m_str []) (by exact a_cons (by exact m_tup (by exact a_nil)) a_nil))) (by exact a_cons (by exact m_tup (by exact a_cons (by exact m_tup (by exact a_cons (by exact m_str [97]) (by exact a_cons (by exact m_str [98]) a_nil))) (by exact a_cons (by exact m_tup (by exact a_nil)) a_nil))) (by exact a_cons (by exact m_tup (by exact a_cons (by exact m_str [97, 98]) (by exact a_cons (by exact m_non) a_nil))) (by exact a_cons (by exact m_tup (by exact a_cons (by exact m_str [97, 98]) (by exact a_cons (by exact m_str [98, 97]) a_nil))) (by exact a_cons (by exact m_tup (by exact a_cons (by exact m_tup (by exact a_cons (by exact m_str [97, 98]) (by exact a_cons (by exact m_tup (by exact a_nil)) a_nil))) a_nil)) (by exact a_cons (by exact m_tup (by exact a_cons (by exact m_str [97, 66]) (by exact a_cons (by exact m_tup (by exact a_nil)) a_nil))) (by exact a_cons (by exact m_tup (by exact a_cons (by exact m_bl) (by exact a_cons (by exact m_tup (by exact a_nil)) a_nil))) a_nil))))))))))))))) nd) (by exact s_cons (by exact s_if (by exact t_not (by exact t_tst (by exact m_call F_law_same (hr.mono (by omega)) tk (by exact a_cons (by exact m_lc nd (by exact i_val (by exact m_var 17)) (own := [("own", 7)]) (by first | (show blkC ["tin", "letters_so", "lap", "pairs_so", "rules_so", "one", "two", "own", "lefts_so", "due", "loose_so", "rows_so", "got", "turned_so", "left_so", "right_so", "bents_so", "things_so", "turn"] (defScope s_law_right) _ _ = true; decide +kernel) | decide +kernel | rfl) (fun _ _ _ _ _ => by exact g_nm nd) (fun _ _ _ _ _ => by exact t_yes) (fun _ _ _ _ _ => by exact m_call F_is_book (hr.mono (by omega)) takes0 (by exact a_cons (by exact m_var 7) a_nil))) (by exact a_cons (by exact m_mul (by exact m_lst (by exact a_cons (by exact m_bl) a_nil)) (by exact m_int)) a_nil))))) (by exact s_one (by exact s_ret (by exact m_bl))) (by exact s_nil)) (by exact s_cons (by exact s_asg (i := 12) (by exact m_lst (by exact a_cons (by exact m_call F_is_book (hr.mono (by omega)) tk (by exact a_cons (by exact m_tup (by exact a_cons (by exact m_str [97, 98]) (by exact a_cons (by exact m_tup (by exact a_cons (by exact m_tup (by exact a_cons (by exact m_str [98, 97]) (by exact a_cons (by exact m_str [97, 98]) a_nil))) a_nil)) a_nil))) a_nil)) (by exact a_cons (by exact m_call F_is_book (hr.mono (by omega)) tk (by exact a_cons (by exact m_tup (by exact a_cons (by exact m_str [98, 97]) (by exact a_cons (by exact m_tup (by exact a_cons (by exact m_tup (by exact a_cons (by exact m_str [98, 97]) (by exact a_cons (by exact m_str [97, 98]) a_nil))) a_nil)) a_nil))) a_nil)) (by exact a_cons (by exact m_call F_is_book (hr.mono (by omega)) tk (by exact a_cons (by exact m_tup (by exact a_cons (by exact m_str [98, 97]) (by exact a_cons (by exact m_tup (by exact a_cons (by exact m_tup (by exact a_cons (by exact m_str [97, 98]) (by exact a_cons (by exact m_str [98, 97]) a_nil))) a_nil)) a_nil))) a_nil)) (by exact a_cons (by exact m_call F_is_book (hr.mono (by omega)) tk (by exact a_cons (by exact m_tup (by exact a_cons (by exact m_str [97, 98]) (by exact a_cons (by exact m_tup (by exact a_cons (by exact m_tup (by exact a_cons (by exact m_str [98]) (by exact a_cons (by exact m_str [97]) a_nil))) a_nil)) a_nil))) a_nil)) (by exact a_cons (by exact m_call F_is_book (hr.mono (by omega)) tk (by exact a_cons (by exact m_tup (by exact a_cons (by exact m_str [97, 98]) (by exact a_cons (by exact m_tup (by exact a_cons (by exact m_tup (by exact a_cons (by exact m_str [97]) (by exact a_cons (by exact m_str []) a_nil))) (by exact a_cons (by exact m_tup (by exact a_cons (by exact m_str [98]) (by exact a_cons (by exact m_str []) a_nil))) a_nil))) a_nil))) a_nil)) a_nil)))))) nd) (by exact s_cons (by exact s_asg (i := 9) (by exact m_lst (by exact a_cons (by exact m_bl) (by exact a_cons (by exact m_bl) (by exact a_cons (by exact m_bl) (by exact a_cons (by exact m_bl) (by exact a_cons (by exact m_bl) a_nil)))))) nd) (by exact s_one (by exact s_ret (by exact m_call F_law_same (hr.mono (by omega)) tk (by exact a_cons (by exact m_var 12) (by exact a_cons (by exact m_var 9) a_nil))))))))))
theorem ff_law (T : Tx K mg) : ∃ fd, (∀ base : Heap, FF P w K mg base (cxK K) 13 "law" (He.ga K "law") fd ["script"] [false] c_law) ∧ ∀ (s : Shared) (u : Value), BindsTo s fd ⟨[u], []⟩ [("script", u)] := by
  obtain ⟨fd, F⟩ := T.f_law
  refine ⟨fd, fun base => ?_, ?_⟩
  · obtain ⟨fd_law_box, F_law_box⟩ := ff_law_box (P := P) (w := w) (base := base) T
    obtain ⟨fd_law_cells, F_law_cells⟩ := ff_law_cells (P := P) (w := w) (base := base) T
    obtain ⟨fd_law_right, F_law_right⟩ := ff_law_right (P := P) (w := w) (base := base) T
    have nd : List.Nodup (α := Str) ["script", "cells_so", "k"] := by decide +kernel
    have Sc : FnScope ["script", "cells_so", "k"] ["script"] (defScope s_law) := ⟨rfl, rfl, rfl, by decide +kernel, rfl, by decide +kernel, by decide +kernel⟩
    refine ⟨fn_okT F Sc rfl fun cdv A outer s H E hr tk hp => ?_, T.g_law, F.kp, F.binds fun _ _ _ _ _ _ us hl => match us, hl with | [_], _ => rfl⟩
    exact s_cons (by exact s_asg (i := 1) (by exact m_call F_law_cells (hr.mono (by omega)) tk (by exact a_cons (by exact m_var 0) (by exact a_cons (by exact m_int) a_nil))) nd) (by exact s_one (by exact s_ret (by exact m_cb ok_all (cr_all rfl) T.n_all (by exact a_cons (by exact m_lc nd (by exact i_rng1 (by exact m_cb ok_len call_len T.n_len (by exact a_cons (by exact m_var 1) a_nil)) T.n_range) (own := [("k", 2)]) (by first | (show blkC ["script", "cells_so", "k"] (defScope s_law) _ _ = true; decide +kernel) | decide +kernel | rfl) (fun _ _ _ _ _ => by exact g_nm nd) (fun _ _ _ _ _ => by exact t_yes) (fun _ _ _ _ _ => by exact m_callT F_law_right (hr.mono (by omega)) takes0 (by exact m_call F_law_box (hr.mono (by omega)) takes0 (by exact a_cons (by exact m_var 1) (by exact a_cons (by exact m_var 2) a_nil))))) a_nil))))
  · obtain ⟨⟨oc, od, kV, doc, pm, an, cdv, ct, osl, rfl, lk, hcd⟩, kp⟩ := F
    exact fun s u => .of_eq rfl
end
end K02
namespace K02
open MI
def tinO (a b c : Int) : O := .l [I a, I b, I c]
def once (b c : Int) : Int := ((b + 48271 * (c + 1)) * (39373 + (c + 1))) % 2147483647
def twice (b c : Int) : Int := ((once b c + (c + 1) + b / 1000003) * (once b c % 40009 + 7)) % 2147483629
theorem take_ok {a b c n : Int} (hc : 0 ≤ c) (hc2 : c < 4611686018427387904) (hn : 0 < n) (hn2 : n < 1073741824) :
    ∃ d a' c', 0 ≤ d ∧ d < n ∧ c ≤ c' ∧ c' ≤ c + 1 ∧ Gives (c_law_take [tinO a b c, I n]) (I d) (some (tinO a' b c')) := by
  by_cases h : 0 < a
  · refine ⟨a % n, a / n, c, Int.emod_nonneg _ (by omega), Int.emod_lt_of_pos _ hn, by omega, by omega, ?_⟩
    simp [Gives, tinO, c_law_take, b_law_take, eSl, pNo, pSo, eRev, bd, MI.ret, eVar, eD, op2, op1, op3, evs, callB, lookAll, look, opnd, frz, frzs, sseq, sAsg, sPar, sIf, sRet, sExpr, hold, tst, truO, truD, vNot, vAnd, vOr, bAnd, bOr, bNot, eIf, bB, gv, gvs, eTup, eLst, lift, callU, callK, callT, evK, pick, prep, insOf, backTo, fnCR, sSetIx, eMut, itV, itR1, itR2, itE, itZ, itemsOf, sFor, fIsi, tyO, tyD, isTy, isTys, fLen, fAbs, fInt, fMin, fMax, seqO, lsqO, lstO, allS, addI, subI, fNeg, gGt, gGe, gLe, fIx, fSl, fRev, fListA, fList, gIsN, isNon, h, L2.atI, L2.ixN, modE, divE, hn, hn2]
  · have em : ∀ i : Int, fMulA (I i) (I (39373 + (c + 1))) = some (I (i * (39373 + (c + 1)))) := fun i => mulR (by omega) (by omega)
    have ew : ∀ i x : Int, fMulA (I i) (I (x % 40009 + 7)) = some (I (i * (x % 40009 + 7))) := fun i x => mulR (by omega) (by omega)
    refine ⟨((twice b c * 48271 + once b c) % 2147483587 / 64) % n, a, c + 1, Int.emod_nonneg _ (by omega), Int.emod_lt_of_pos _ hn, by omega, by omega, ?_⟩
    simp [Gives, tinO, c_law_take, b_law_take, eSl, pNo, pSo, eRev, bd, MI.ret, eVar, eD, op2, op1, op3, evs, callB, lookAll, look, opnd, frz, frzs, sseq, sAsg, sPar, sIf, sRet, sExpr, hold, tst, truO, truD, vNot, vAnd, vOr, bAnd, bOr, bNot, eIf, bB, gv, gvs, eTup, eLst, lift, callU, callK, callT, evK, pick, prep, insOf, backTo, fnCR, sSetIx, eMut, itV, itR1, itR2, itE, itZ, itemsOf, sFor, fIsi, tyO, tyD, isTy, isTys, fLen, fAbs, fInt, fMin, fMax, seqO, lsqO, lstO, allS, addI, subI, fNeg, gGt, gGe, gLe, fIx, fSl, fRev, fListA, fList, gIsN, isNon, h, L2.atI, L2.ixN, modE, divE, mulL, em, ew, hn, hn2, once, twice, mulR]
def Tn (m : Int) (o : O) : Prop := ∃ a b c, o = tinO a b c ∧ 0 ≤ c ∧ c ≤ m
theorem Tn.mono {m k : Int} {o : O} (h : Tn m o) (l : m ≤ k) : Tn k o := by
  obtain ⟨a, b, c, e, h1, h2⟩ := h
  exact ⟨a, b, c, e, h1, Int.le_trans h2 l⟩
theorem take_tn {m n : Int} {o : O} (h : Tn m o) (hm : m < 4611686018427387904) (hn : 0 < n) (hn2 : n < 1073741824) : ∃ d o', 0 ≤ d ∧ d < n ∧ Tn (m + 1) o' ∧ Gives (c_law_take [o, I n]) (I d) (some o') := by
  obtain ⟨a, b, c, rfl, h1, h2⟩ := h
  obtain ⟨d, a', c', q1, q2, q3, q4, q5⟩ := take_ok (a := a) (b := b) (c := c) (n := n) h1 (by omega) hn hn2
  exact ⟨d, _, q1, q2, ⟨a', b, c', rfl, by omega, by omega⟩, q5⟩
theorem at_some {α : Type} {xs : List α} {d : Int} (h1 : 0 ≤ d) (h2 : d < xs.length) : ∃ x, x ∈ xs ∧ xs[d.toNat]? = some x ∧ L2.atI xs d = some x := by
  have hl : d.toNat < xs.length := by omega
  refine ⟨xs[d.toNat], List.getElem_mem hl, List.getElem?_eq_getElem hl, ?_⟩
  simp [L2.atI, L2.ixN, h1, h2, hl]
theorem of_str {m : Int} {o : O} {x : List Nat} (h : Tn m o) (hm : m < 4611686018427387904) (hx : x ≠ []) (hl : x.length < 1073741824) : ∃ ch o', ch ∈ x ∧ Tn (m + 1) o' ∧ Gives (c_law_of [o, .s (.str x)]) (.s (.str [ch])) (some o') := by
  have h0 : 0 < x.length := List.length_pos_iff.mpr hx
  obtain ⟨d, o', q1, q2, q3, e, q4, q5⟩ := take_tn h hm (n := x.length) (by omega) (by omega)
  obtain ⟨ch, hc, _, ha⟩ := at_some (xs := x) q1 q2
  refine ⟨ch, o', hc, q3, ?_⟩
  simp [Gives, c_law_of, b_law_of, eSl, pNo, pSo, eRev, bd, MI.ret, eVar, eD, op2, op1, op3, evs, callB, lookAll, look, opnd, frz, frzs, sseq, sAsg, sPar, sIf, sRet, sExpr, hold, tst, truO, truD, vNot, vAnd, vOr, bAnd, bOr, bNot, eIf, bB, gv, gvs, eTup, eLst, lift, callU, callK, callT, evK, pick, prep, insOf, backTo, fnCR, sSetIx, eMut, itV, itR1, itR2, itE, itZ, itemsOf, sFor, fIsi, tyO, tyD, isTy, isTys, fLen, fAbs, fInt, fMin, fMax, seqO, lsqO, lstO, allS, addI, subI, fNeg, gGt, gGe, gLe, fIx, fSl, fRev, fListA, fList, gIsN, isNon, q4, q5, ha]
theorem perm_idx {α : Type} : ∀ (xs : List α) (n : Nat) (h : n < xs.length), (xs[n] :: xs.eraseIdx n).Perm xs
  | x :: xs, 0, h => List.Perm.refl _
  | x :: xs, n + 1, h => by
    have := perm_idx xs n (by simpa using h)
    exact (List.Perm.swap x _ _).trans (this.cons x)
theorem seq_pop {α : Type} {xs : List α} {d : Int} (h1 : 0 ≤ d) (h2 : d < xs.length) : ∃ x, xs[d.toNat]? = some x ∧ PySem.seqIndex? d xs.length = some d.toNat ∧ (xs.eraseIdx d.toNat).length + 1 = xs.length ∧ (x :: xs.eraseIdx d.toNat).Perm xs := by
  have hl : d.toNat < xs.length := by omega
  refine ⟨xs[d.toNat], List.getElem?_eq_getElem hl, PySem.StrLaws.seqIndex_nonneg h1 h2, ?_, ?_⟩
  · rw [List.length_eraseIdx, if_pos hl]; omega
  · exact perm_idx xs _ hl
theorem allS_map' (ds : List D) : allS (ds.map .s) = some ds := allS_of ds
/-- n of the goods, in whatever order -/
theorem pick_go {m : Int} {o : O} {gs : List D} {g1 : O} {n : Int} (h : Tn m o) (hm : m + gs.length < 4611686018427387904) (hl : gs.length < 1000) (hn : 0 ≤ n) (hs : fListA [g1] = some (.l (gs.map .s))) (hfz : ∃ d, g1 = .s d) :
    ∃ (ys zs : List D) (o' : O), ys.length = min n.toNat gs.length ∧ (ys ++ zs).Perm gs ∧ Tn (m + gs.length) o' ∧ Gives (c_law_pick [o, g1, I n]) (.s (.lst ys)) (some o') := by
  obtain ⟨d1, rfl⟩ := hfz
  have hmin : (if (gs.length : Int) < n then (gs.length : Int) else n) = ((min n.toNat gs.length : Nat) : Int) := by split <;> omega
  obtain ⟨e', he, hP⟩ := loop_inv (tg := gNm 5) (body := sExpr (eMut fApp 4 [eMut fPop 3 [callU c_law_take [true, false] [eVar 0, callB fLen [eVar 3]]]]))
    (fun i e => ∃ (o1 : O) (ys zs : List D) (x : Option O), e = [some o1, some (.s d1), some (I n), some (.l (zs.map .s)), some (.l (ys.map .s)), x] ∧ Tn (m + i) o1 ∧ ys.length = i ∧ (ys ++ zs).Perm gs)
    (rngD 0 (min n.toNat gs.length : Nat)) 0 [some o, some (.s d1), some (I n), some (.l (gs.map .s)), some (.l []), none] ⟨o, [], gs, none, by simp, by simpa using h, rfl, by simp⟩ fun j d e hj hp => by
      obtain ⟨o1, ys, zs, x, rfl, t1, l1, p1⟩ := hp
      have hjl : j < min n.toNat gs.length := by
        have := (List.getElem?_eq_some_iff.mp hj).1
        simpa [rngD] using this
      have lz := p1.length_eq
      rw [List.length_append] at lz
      obtain ⟨d2, o2, q1, q2, q3, e3, q4, q5⟩ := take_tn t1 (n := zs.length) (by omega) (by omega) (by omega)
      obtain ⟨z, hz, hsq, hle, hpe⟩ := seq_pop (xs := zs) q1 q2
      refine ⟨[some o1, some (.s d1), some (I n), some (.l (zs.map .s)), some (.l (ys.map .s)), some (.s d)], [some o2, some (.s d1), some (I n), some (.l ((zs.eraseIdx d2.toNat).map .s)), some (.l ((ys ++ [z]).map .s)), some (.s d)], rfl, ?_, o2, ys ++ [z], zs.eraseIdx d2.toNat, some (.s d), rfl, q3.mono (by omega), by simp; omega, ?_⟩
      · have hb1 : (-9223372036854775808 : Int) ≤ d2 := by omega
        have hb2 : d2 < 9223372036854775808 := by omega
        have hl2 : ys.length < 16777216 := by omega
        simp [eSl, pNo, pSo, eRev, bd, MI.ret, eVar, eD, op2, op1, op3, evs, callB, lookAll, look, opnd, frz, frzs, sseq, sAsg, sPar, sIf, sRet, sExpr, hold, tst, truO, truD, vNot, vAnd, vOr, bAnd, bOr, bNot, eIf, bB, gv, gvs, eTup, eLst, lift, callU, callK, callT, evK, pick, prep, insOf, backTo, fnCR, sSetIx, eMut, itV, itR1, itR2, itE, itZ, itemsOf, sFor, fIsi, tyO, tyD, isTy, isTys, fLen, fAbs, fInt, fMin, fMax, seqO, lsqO, lstO, allS, addI, subI, fNeg, gGt, gGe, gLe, fIx, fSl, fRev, fListA, fList, gIsN, isNon, allS_map', q4, q5, fPop, fApp, hsq, hz, hb1, hb2, hl2]
      · rw [List.append_assoc]
        exact (List.Perm.append_left ys hpe).trans p1
  obtain ⟨o1, ys, zs, x, rfl, t1, l1, p1⟩ := hP
  have hr : (rngD 0 (min n.toNat gs.length : Nat)).length = min n.toNat gs.length := by simp [rngD]
  rw [hr, Nat.zero_add] at l1 t1
  refine ⟨ys, zs, o1, l1, p1, t1.mono (by omega), ?_⟩
  have hk : okR ((min n.toNat gs.length : Nat) : Int) = true := by simp only [okR, Bool.and_eq_true, decide_eq_true_eq]; omega
  have hlo : List.length (gs.map O.s) = gs.length := by simp
  refine gives (go (e1 := [some o, some (.s d1), some (I n), some (.l (gs.map .s)), some (.l []), none]) ?_ (go (goF (ds := rngD 0 (min n.toNat gs.length : Nat)) ?_ he) (goN rfl (frz_l ys)))) rfl
  · simp [eSl, pNo, pSo, eRev, bd, MI.ret, eVar, eD, op2, op1, op3, evs, callB, lookAll, look, opnd, frz, frzs, sseq, sAsg, sPar, sIf, sRet, sExpr, hold, tst, truO, truD, vNot, vAnd, vOr, bAnd, bOr, bNot, eIf, bB, gv, gvs, eTup, eLst, lift, callU, callK, callT, evK, pick, prep, insOf, backTo, fnCR, sSetIx, eMut, itV, itR1, itR2, itE, itZ, itemsOf, sFor, fIsi, tyO, tyD, isTy, isTys, fLen, fAbs, fInt, fMin, fMax, seqO, lsqO, lstO, allS, addI, subI, fNeg, gGt, gGe, gLe, fIx, fSl, fRev, gIsN, isNon, hs]
  · simp [eSl, pNo, pSo, eRev, bd, MI.ret, eVar, eD, op2, op1, op3, evs, callB, lookAll, look, opnd, frz, frzs, sseq, sAsg, sPar, sIf, sRet, sExpr, hold, tst, truO, truD, vNot, vAnd, vOr, bAnd, bOr, bNot, eIf, bB, gv, gvs, eTup, eLst, lift, callU, callK, callT, evK, pick, prep, insOf, backTo, fnCR, sSetIx, eMut, itV, itR1, itR2, itE, itZ, itemsOf, sFor, fIsi, tyO, tyD, isTy, isTys, fLen, fAbs, fInt, fMin, fMax, seqO, lsqO, lstO, allS, addI, subI, fNeg, gGt, gGe, gLe, fIx, fSl, fRev, gIsN, isNon, allS_map', hmin, hk]
end K02
namespace K02
open MI
/-! words: joined signs -/
def chs (x : List Nat) : List D := x.map fun c => .str [c]
def unch : D → Nat
  | .str [c] => c
  | _ => 0
theorem unch_chs (x : List Nat) : (chs x).map unch = x := by
  unfold chs
  rw [List.map_map]
  conv => rhs; rw [← List.map_id x]
  rfl
theorem chs_of {l : List D} {x : List Nat} (h : ∀ d ∈ l, d ∈ chs x) : l = chs (l.map unch) := by
  unfold chs
  rw [List.map_map]
  conv => lhs; rw [← List.map_id l]
  refine List.map_congr_left fun d hd => ?_
  obtain ⟨c, _, rfl⟩ := List.mem_map.mp (h d hd)
  rfl
theorem strs_chs : ∀ x : List Nat, strsOf (chs x) = some (x.map fun c => [c])
  | [] => rfl
  | c :: x => by
    show (match strsOf (chs x) with
      | some bs => some ([c] :: bs)
      | none => none) = _
    rw [strs_chs x]
    rfl
theorem jn_chs : ∀ x : List Nat, jn [] (x.map fun c => [c]) = x
  | [] => rfl
  | [c] => rfl
  | c :: d :: x => by
    have := jn_chs (d :: x)
    simp only [List.map_cons] at this ⊢
    simp [jn, this]
theorem sum_chs : ∀ x : List Nat, ((x.map fun c => [c]).map List.length).sum = x.length
  | [] => rfl
  | c :: x => by
    simp only [List.map_cons, List.sum_cons, List.length_cons, List.length_nil, sum_chs x]
    omega
theorem join_chs {x : List Nat} (h : x.length ≤ 16777216) : fJoin (.s (.str [])) (.s (.lst (chs x))) = some (.s (.str x)) := by
  show (match strsOf (chs x) with
    | some ys => if (ys.map List.length).sum + ys.length * ([] : List Nat).length ≤ 16777216 then some (O.s (D.str (jn [] ys))) else none
    | none => none) = _
  rw [strs_chs]
  simp only [sum_chs, List.length_nil, Nat.mul_zero, Nat.add_zero, if_pos h, jn_chs]
theorem join_chl {x : List Nat} (h : x.length ≤ 16777216) : fJoin (.s (.str [])) (.l ((chs x).map .s)) = some (.s (.str x)) := by
  show (match allS ((chs x).map .s) with
    | some ds => (match strsOf ds with
      | some ys => if (ys.map List.length).sum + ys.length * ([] : List Nat).length ≤ 16777216 then some (O.s (D.str (jn [] ys))) else none
      | none => none)
    | none => none) = _
  rw [allS_map']
  show (match strsOf (chs x) with
    | some ys => if (ys.map List.length).sum + ys.length * ([] : List Nat).length ≤ 16777216 then some (O.s (D.str (jn [] ys))) else none
    | none => none) = _
  rw [strs_chs]
  simp only [sum_chs, List.length_nil, Nat.mul_zero, Nat.add_zero, if_pos h, jn_chs]
theorem pick_str {m : Int} {o : O} {x : List Nat} {n : Int} (h : Tn m o) (hm : m + x.length < 4611686018427387904) (hl : x.length < 1000) (hn : 0 ≤ n) :
    ∃ (ys zs : List Nat) (o' : O), ys.length = min n.toNat x.length ∧ (ys ++ zs).Perm x ∧ Tn (m + x.length) o' ∧ Gives (c_law_pick [o, .s (.str x), I n]) (.s (.lst (chs ys))) (some o') := by
  have lc : (chs x).length = x.length := by simp [chs]
  obtain ⟨ys, zs, o', q1, q2, q3, q4⟩ := pick_go (gs := chs x) (g1 := .s (.str x)) h (by rw [lc]; exact hm) (by rw [lc]; exact hl) hn rfl ⟨_, rfl⟩
  have p2 := q2.map unch
  rw [List.map_append, unch_chs] at p2
  have e1 : ys = chs (ys.map unch) := chs_of fun d hd => q2.mem_iff.mp (List.mem_append_left _ hd)
  refine ⟨ys.map unch, zs.map unch, o', by rw [List.length_map, q1, lc], p2, by rw [← lc]; exact q3, ?_⟩
  rw [← e1]
  exact q4
theorem word_ok {m n : Int} {o : O} {x : List Nat} (h : Tn m o) (hm : m < 1000000000) (hx : x ≠ []) (hl : x.length < 1000) (hn : 0 ≤ n) (hn2 : n < 1000) :
    ∃ (w : List Nat) (o' : O), (∀ c ∈ w, c ∈ x) ∧ (w.length : Int) ≤ n ∧ Tn (m + n + 1) o' ∧ Gives (c_law_some_word [o, .s (.str x), I n]) (.s (.str w)) (some o') := by
  obtain ⟨d, o1, q1, q2, q3, e1, q4, q5⟩ := take_tn h (by omega) (n := n + 1) (by omega) (by omega)
  have hr : (rngD 0 d).length = d.toNat := by simp [rngD]
  obtain ⟨xs, e2, k1, k2, k3, k4⟩ := lc_inv (tg := gNm 3) (cond := MI.ret true) (elt := callU c_law_of [true, false] [eVar 0, eVar 1]) (own := [3]) (fun i e => ∃ o2, e = [some o2, some (.s (.str x)), some (I n), none] ∧ Tn (m + 1 + i) o2) (fun z => z ∈ chs x)
    (rngD 0 d) 0 [some o1, some (.s (.str x)), some (I n), none] ⟨o1, rfl, by simpa using q3⟩ fun j z e hj hp => by
      obtain ⟨o2, rfl, t2⟩ := hp
      have hjl : j < d.toNat := by
        have := (List.getElem?_eq_some_iff.mp hj).1
        rw [hr] at this
        exact this
      obtain ⟨ch, o3, r1, r2, e3, r3, r4⟩ := of_str t2 (by omega) hx (by omega)
      refine ⟨[some o2, some (.s (.str x)), some (I n), some (.s z)], _, [some o3, some (.s (.str x)), some (I n), some (.s z)], .v (.s (.str [ch])), [some o3, some (.s (.str x)), some (I n), some (.s z)], .str [ch], rfl, rfl, ?_, rfl, ?_, o3, rfl, r2.mono (by omega)⟩
      · simp [eSl, pNo, pSo, eRev, bd, MI.ret, eVar, eD, op2, op1, op3, evs, callB, lookAll, look, opnd, frz, frzs, sseq, sAsg, sPar, sIf, sRet, sExpr, hold, tst, truO, truD, vNot, vAnd, vOr, bAnd, bOr, bNot, eIf, bB, gv, gvs, eTup, eLst, lift, callU, callK, callT, evK, pick, prep, insOf, backTo, fnCR, sSetIx, eMut, itV, itR1, itR2, itE, itZ, itemsOf, sFor, r3, r4]
      · exact List.mem_map.mpr ⟨ch, r1, rfl⟩
  obtain ⟨o4, rfl, t4⟩ := k4
  have e1 : xs = chs (xs.map unch) := chs_of k3
  rw [hr] at k2 t4
  refine ⟨xs.map unch, o4, fun c hc => ?_, by rw [List.length_map, k2]; omega, t4.mono (by omega), ?_⟩
  · obtain ⟨z, hz, rfl⟩ := List.mem_map.mp hc
    obtain ⟨c, hx, rfl⟩ := List.mem_map.mp (k3 z hz)
    exact hx
  · have hlx : xs.length ≤ 16777216 := by omega
    refine gives (e1 := [some o4, some (.s (.str x)), some (I n), none]) (goV ?_) rfl
    have hj : fJoin (.s (.str [])) (.l (xs.map .s)) = some (.s (.str (xs.map unch))) := by
      have := join_chl (x := xs.map unch) (by simpa using hlx)
      rw [← e1] at this
      exact this
    have hL := goL (it := itR1 (callU c_law_take [true, false] [eVar 0, op2 fAdd (eVar 2) (eD (.int 1))])) (e := [some o, some (.s (.str x)), some (I n), none]) (ds := rngD 0 d) (e1 := [some o1, some (.s (.str x)), some (I n), none]) (by
      have hk : okR d = true := by simp only [okR, Bool.and_eq_true, decide_eq_true_eq]; omega
      simp [eSl, pNo, pSo, eRev, bd, MI.ret, eVar, eD, op2, op1, op3, evs, callB, lookAll, look, opnd, frz, frzs, sseq, sAsg, sPar, sIf, sRet, sExpr, hold, tst, truO, truD, vNot, vAnd, vOr, bAnd, bOr, bNot, eIf, bB, gv, gvs, eTup, eLst, lift, callU, callK, callT, evK, pick, prep, insOf, backTo, fnCR, sSetIx, eMut, itV, itR1, itR2, itE, itZ, itemsOf, sFor, fIsi, tyO, tyD, isTy, isTys, fLen, fAbs, fInt, fMin, fMax, seqO, lsqO, lstO, allS, addI, subI, fNeg, gGt, gGe, gLe, fIx, fSl, fRev, fListA, fList, gIsN, isNon, q4, q5, hk]) k1 hlx
    exact goSm rfl rfl hL rfl rfl hj
end K02
namespace K02
open MI
mutual
def okD : D → Bool
  | .non => true
  | .bl _ => true
  | .int _ => true
  | .str x => okS x
  | .lst ds => decide (ds.length ≤ 16777216) && okDs ds
  | .tup ds => decide (ds.length ≤ 16777216) && okDs ds
  | _ => false
def okDs : List D → Bool
  | [] => true
  | d :: ds => okD d && okDs ds
end
mutual
def dep : D → Nat
  | .lst ds => deps ds + 1
  | .tup ds => deps ds + 1
  | _ => 0
def deps : List D → Nat
  | [] => 0
  | d :: ds => max (dep d) (deps ds)
end
theorem okDs_mem : ∀ {ds : List D} {d : D}, okDs ds = true → d ∈ ds → okD d = true
  | e :: ds, d, h, hd => by
    simp only [okDs, Bool.and_eq_true] at h
    rcases List.mem_cons.mp hd with rfl | z
    · exact h.1
    · exact okDs_mem h.2 z
theorem deps_mem : ∀ {ds : List D} {d : D}, d ∈ ds → dep d ≤ deps ds
  | e :: ds, d, hd => by
    simp only [deps]
    rcases List.mem_cons.mp hd with rfl | z
    · omega
    · have := deps_mem z; omega
theorem all_true : ∀ ds : List D, blsOf (ds.map fun _ => D.bl true) = some (ds.map fun _ => true)
  | [] => rfl
  | d :: ds => by
    show (match blsOf (ds.map fun _ => D.bl true) with
      | some bs => some (true :: bs)
      | none => none) = _
    rw [all_true ds]
    rfl
theorem same_lc {rec : List O → CR} {ds : List D} {g : D} (h : ∀ d ∈ ds, Ans (rec [.s d, .s d]) (.s (.bl true))) :
    lcLoop (gTp [gNm 2, gNm 3]) (MI.ret true) (callU rec [false, false] [eVar 2, eVar 3]) [2, 3] (zipD ds ds) [some (.s g), some (.s g), none, none] = .ok (ds.map fun _ => .bl true) [some (.s g), some (.s g), none, none] := by
  have e : ds.map (fun _ => D.bl true) = ((zipD ds ds).filter fun _ => true).map fun _ => D.bl true := by
    rw [List.filter_eq_self.mpr (by simp)]
    simp [zipD, Function.comp_def, List.map_const']
  rw [e]
  refine lc_pure (fun _ => true) (fun _ => .bl true) _ fun z hz => ?_
  obtain ⟨j, hj⟩ := List.mem_iff_getElem?.mp hz
  obtain ⟨a, b, ha, hb, rfl⟩ := zip_get hj
  rw [ha] at hb
  cases hb
  obtain ⟨e1, he⟩ := h a (List.mem_of_getElem? ha)
  refine ⟨[some (.s g), some (.s g), some (.s a), some (.s a)], [some (.s g), some (.s g), some (.s a), some (.s a)], rfl, rfl, by simp, fun _ => ⟨.v (.s (.bl true)), [some (.s g), some (.s g), some (.s a), some (.s a)], [some (.s g), some (.s g), some (.s a), some (.s a)], ?_, rfl, rfl⟩⟩
  simp [eSl, pNo, pSo, eRev, bd, MI.ret, eVar, eD, op2, op1, op3, evs, callB, lookAll, look, opnd, frz, frzs, sseq, sAsg, sPar, sIf, sRet, sExpr, hold, tst, truO, truD, vNot, vAnd, vOr, bAnd, bOr, bNot, eIf, bB, gv, gvs, eTup, eLst, lift, callU, callK, callT, evK, pick, prep, insOf, backTo, fnCR, sSetIx, eMut, itV, itR1, itR2, itE, itZ, itemsOf, sFor, he]
theorem same_list {rec : List O → CR} {ds : List D} (hl : ds.length ≤ 16777216) (h : ∀ d ∈ ds, Ans (rec [.s d, .s d]) (.s (.bl true))) : Ans (fnCR (b_law_same rec) 4 [.s (.lst ds), .s (.lst ds)]) (.s (.bl true)) := by
  have hL := goL (it := itZ (eVar 0) (eVar 1)) (e := [some (.s (.lst ds)), some (.s (.lst ds)), none, none]) (ds := zipD ds ds) (e1 := [some (.s (.lst ds)), some (.s (.lst ds)), none, none]) (by simp [eSl, pNo, pSo, eRev, bd, MI.ret, eVar, eD, op2, op1, op3, evs, callB, lookAll, look, opnd, frz, frzs, sseq, sAsg, sPar, sIf, sRet, sExpr, hold, tst, truO, truD, vNot, vAnd, vOr, bAnd, bOr, bNot, eIf, bB, gv, gvs, eTup, eLst, lift, callU, callK, callT, evK, pick, prep, insOf, backTo, fnCR, sSetIx, eMut, itV, itR1, itR2, itE, itZ, itemsOf, sFor]) (same_lc h) (by simpa using hl)
  have hr : restE [some (O.s (.lst ds)), some (.s (.lst ds)), none, none] [2, 3] [some (.s (.lst ds)), some (.s (.lst ds)), none, none] = [some (.s (.lst ds)), some (.s (.lst ds)), none, none] := rfl
  refine ans (e1 := [some (.s (.lst ds)), some (.s (.lst ds)), none, none]) (goR (goT (e1 := [some (.s (.lst ds)), some (.s (.lst ds)), none, none]) ?_ (go (e1 := [some (.s (.lst ds)), some (.s (.lst ds)), none, none]) (goE (e1 := [some (.s (.lst ds)), some (.s (.lst ds)), none, none]) ?_ rfl) (goV ?_))))
  · simp [eSl, pNo, pSo, eRev, bd, MI.ret, eVar, eD, op2, op1, op3, evs, callB, lookAll, look, opnd, frz, frzs, sseq, sAsg, sPar, sIf, sRet, sExpr, hold, tst, truO, truD, vNot, vAnd, vOr, bAnd, bOr, bNot, eIf, bB, gv, gvs, eTup, eLst, lift, callU, callK, callT, evK, pick, prep, insOf, backTo, fnCR, sSetIx, eMut, itV, itR1, itR2, itE, itZ, itemsOf, sFor, fIsi, tyO, tyD, isTy, isTys, fLen, fAbs, fInt, fMin, fMax, seqO, lsqO, lstO, allS, addI, subI, fNeg, gGt, gGe, gLe, fIx, fSl, fRev, fListA, fList, gIsN, isNon]
  · simp [eSl, pNo, pSo, eRev, bd, MI.ret, eVar, eD, op2, op1, op3, evs, callB, lookAll, look, opnd, frz, frzs, sseq, sAsg, sPar, sIf, sRet, sExpr, hold, tst, truO, truD, vNot, vAnd, vOr, bAnd, bOr, bNot, eIf, bB, gv, gvs, eTup, eLst, lift, callU, callK, callT, evK, pick, prep, insOf, backTo, fnCR, sSetIx, eMut, itV, itR1, itR2, itE, itZ, itemsOf, sFor, fIsi, tyO, tyD, isTy, isTys, fLen, fAbs, fInt, fMin, fMax, seqO, lsqO, lstO, allS, addI, subI, fNeg, gGt, gGe, gLe, fIx, fSl, fRev, fListA, fList, gIsN, isNon, gNe, eqB]
  · have ha : (ds.map fun _ => true).all id = true := by simp
    rw [hr] at hL
    have hb : callB fAll [eLc (itZ (eVar 0) (eVar 1)) (gTp [gNm 2, gNm 3]) (MI.ret true) (callU rec [false, false] [eVar 2, eVar 3]) [2, 3]] [some (.s (.lst ds)), some (.s (.lst ds)), none, none] = .ok (.v (.s (.bl true))) [some (.s (.lst ds)), some (.s (.lst ds)), none, none] :=
      goB1 hL rfl (by simp only [fAll, lsqO, lstO, frz_l, opnd, all_true, ha])
    exact goAnd (r := .v (.s (.bl true))) (by simp [eSl, pNo, pSo, eRev, bd, MI.ret, eVar, eD, op2, op1, op3, evs, callB, lookAll, look, opnd, frz, frzs, sseq, sAsg, sPar, sIf, sRet, sExpr, hold, tst, truO, truD, vNot, vAnd, vOr, bAnd, bOr, bNot, eIf, bB, gv, gvs, eTup, eLst, lift, callU, callK, callT, evK, pick, prep, insOf, backTo, fnCR, sSetIx, eMut, itV, itR1, itR2, itE, itZ, itemsOf, sFor, fIsi, tyO, tyD, isTy, isTys, fLen, fAbs, fInt, fMin, fMax, seqO, lsqO, lstO, allS, addI, subI, fNeg, gGt, gGe, gLe, fIx, fSl, fRev, fListA, fList, gIsN, isNon, eqI]) rfl rfl hb
theorem same_tup {rec : List O → CR} {ds : List D} (hl : ds.length ≤ 16777216) (h : ∀ d ∈ ds, Ans (rec [.s d, .s d]) (.s (.bl true))) : Ans (fnCR (b_law_same rec) 4 [.s (.tup ds), .s (.tup ds)]) (.s (.bl true)) := by
  have hL := goL (it := itZ (eVar 0) (eVar 1)) (e := [some (.s (.tup ds)), some (.s (.tup ds)), none, none]) (ds := zipD ds ds) (e1 := [some (.s (.tup ds)), some (.s (.tup ds)), none, none]) (by simp [eSl, pNo, pSo, eRev, bd, MI.ret, eVar, eD, op2, op1, op3, evs, callB, lookAll, look, opnd, frz, frzs, sseq, sAsg, sPar, sIf, sRet, sExpr, hold, tst, truO, truD, vNot, vAnd, vOr, bAnd, bOr, bNot, eIf, bB, gv, gvs, eTup, eLst, lift, callU, callK, callT, evK, pick, prep, insOf, backTo, fnCR, sSetIx, eMut, itV, itR1, itR2, itE, itZ, itemsOf, sFor]) (same_lc h) (by simpa using hl)
  have hr : restE [some (O.s (.tup ds)), some (.s (.tup ds)), none, none] [2, 3] [some (.s (.tup ds)), some (.s (.tup ds)), none, none] = [some (.s (.tup ds)), some (.s (.tup ds)), none, none] := rfl
  refine ans (e1 := [some (.s (.tup ds)), some (.s (.tup ds)), none, none]) (goR (goT (e1 := [some (.s (.tup ds)), some (.s (.tup ds)), none, none]) ?_ (go (e1 := [some (.s (.tup ds)), some (.s (.tup ds)), none, none]) (goE (e1 := [some (.s (.tup ds)), some (.s (.tup ds)), none, none]) ?_ rfl) (goV ?_))))
  · simp [eSl, pNo, pSo, eRev, bd, MI.ret, eVar, eD, op2, op1, op3, evs, callB, lookAll, look, opnd, frz, frzs, sseq, sAsg, sPar, sIf, sRet, sExpr, hold, tst, truO, truD, vNot, vAnd, vOr, bAnd, bOr, bNot, eIf, bB, gv, gvs, eTup, eLst, lift, callU, callK, callT, evK, pick, prep, insOf, backTo, fnCR, sSetIx, eMut, itV, itR1, itR2, itE, itZ, itemsOf, sFor, fIsi, tyO, tyD, isTy, isTys, fLen, fAbs, fInt, fMin, fMax, seqO, lsqO, lstO, allS, addI, subI, fNeg, gGt, gGe, gLe, fIx, fSl, fRev, fListA, fList, gIsN, isNon]
  · simp [eSl, pNo, pSo, eRev, bd, MI.ret, eVar, eD, op2, op1, op3, evs, callB, lookAll, look, opnd, frz, frzs, sseq, sAsg, sPar, sIf, sRet, sExpr, hold, tst, truO, truD, vNot, vAnd, vOr, bAnd, bOr, bNot, eIf, bB, gv, gvs, eTup, eLst, lift, callU, callK, callT, evK, pick, prep, insOf, backTo, fnCR, sSetIx, eMut, itV, itR1, itR2, itE, itZ, itemsOf, sFor, fIsi, tyO, tyD, isTy, isTys, fLen, fAbs, fInt, fMin, fMax, seqO, lsqO, lstO, allS, addI, subI, fNeg, gGt, gGe, gLe, fIx, fSl, fRev, fListA, fList, gIsN, isNon, gNe, eqB]
  · have ha : (ds.map fun _ => true).all id = true := by simp
    rw [hr] at hL
    have hb : callB fAll [eLc (itZ (eVar 0) (eVar 1)) (gTp [gNm 2, gNm 3]) (MI.ret true) (callU rec [false, false] [eVar 2, eVar 3]) [2, 3]] [some (.s (.tup ds)), some (.s (.tup ds)), none, none] = .ok (.v (.s (.bl true))) [some (.s (.tup ds)), some (.s (.tup ds)), none, none] :=
      goB1 hL rfl (by simp only [fAll, lsqO, lstO, frz_l, opnd, all_true, ha])
    exact goAnd (r := .v (.s (.bl true))) (by simp [eSl, pNo, pSo, eRev, bd, MI.ret, eVar, eD, op2, op1, op3, evs, callB, lookAll, look, opnd, frz, frzs, sseq, sAsg, sPar, sIf, sRet, sExpr, hold, tst, truO, truD, vNot, vAnd, vOr, bAnd, bOr, bNot, eIf, bB, gv, gvs, eTup, eLst, lift, callU, callK, callT, evK, pick, prep, insOf, backTo, fnCR, sSetIx, eMut, itV, itR1, itR2, itE, itZ, itemsOf, sFor, fIsi, tyO, tyD, isTy, isTys, fLen, fAbs, fInt, fMin, fMax, seqO, lsqO, lstO, allS, addI, subI, fNeg, gGt, gGe, gLe, fIx, fSl, fRev, fListA, fList, gIsN, isNon, eqI]) rfl rfl hb
theorem same_ok : ∀ (n : Nat) (d : D), okD d = true → dep d < n → Ans (c_law_same n [.s d, .s d]) (.s (.bl true))
  | 0, d, _, h => absurd h (Nat.not_lt_zero _)
  | n + 1, d, ho, hd => by
    cases d with
    | non => exact ⟨_, rfl⟩
    | bl b =>
      refine ans (e1 := [some (.s (.bl b)), some (.s (.bl b)), none, none]) (go (goE (e1 := [some (.s (.bl b)), some (.s (.bl b)), none, none]) (by simp [eSl, pNo, pSo, eRev, bd, MI.ret, eVar, eD, op2, op1, op3, evs, callB, lookAll, look, opnd, frz, frzs, sseq, sAsg, sPar, sIf, sRet, sExpr, hold, tst, truO, truD, vNot, vAnd, vOr, bAnd, bOr, bNot, eIf, bB, gv, gvs, eTup, eLst, lift, callU, callK, callT, evK, pick, prep, insOf, backTo, fnCR, sSetIx, eMut, itV, itR1, itR2, itE, itZ, itemsOf, sFor, fIsi, tyO, tyD, isTy, isTys, fLen, fAbs, fInt, fMin, fMax, seqO, lsqO, lstO, allS, addI, subI, fNeg, gGt, gGe, gLe, fIx, fSl, fRev, fListA, fList, gIsN, isNon]) rfl) (go (goE (e1 := [some (.s (.bl b)), some (.s (.bl b)), none, none]) (by simp [eSl, pNo, pSo, eRev, bd, MI.ret, eVar, eD, op2, op1, op3, evs, callB, lookAll, look, opnd, frz, frzs, sseq, sAsg, sPar, sIf, sRet, sExpr, hold, tst, truO, truD, vNot, vAnd, vOr, bAnd, bOr, bNot, eIf, bB, gv, gvs, eTup, eLst, lift, callU, callK, callT, evK, pick, prep, insOf, backTo, fnCR, sSetIx, eMut, itV, itR1, itR2, itE, itZ, itemsOf, sFor, fIsi, tyO, tyD, isTy, isTys, fLen, fAbs, fInt, fMin, fMax, seqO, lsqO, lstO, allS, addI, subI, fNeg, gGt, gGe, gLe, fIx, fSl, fRev, fListA, fList, gIsN, isNon]) rfl) (goR (goT (e1 := [some (.s (.bl b)), some (.s (.bl b)), none, none]) (by simp [eSl, pNo, pSo, eRev, bd, MI.ret, eVar, eD, op2, op1, op3, evs, callB, lookAll, look, opnd, frz, frzs, sseq, sAsg, sPar, sIf, sRet, sExpr, hold, tst, truO, truD, vNot, vAnd, vOr, bAnd, bOr, bNot, eIf, bB, gv, gvs, eTup, eLst, lift, callU, callK, callT, evK, pick, prep, insOf, backTo, fnCR, sSetIx, eMut, itV, itR1, itR2, itE, itZ, itemsOf, sFor, fIsi, tyO, tyD, isTy, isTys, fLen, fAbs, fInt, fMin, fMax, seqO, lsqO, lstO, allS, addI, subI, fNeg, gGt, gGe, gLe, fIx, fSl, fRev, fListA, fList, gIsN, isNon]) (goV ?_)))))
      simp [eSl, pNo, pSo, eRev, bd, MI.ret, eVar, eD, op2, op1, op3, evs, callB, lookAll, look, opnd, frz, frzs, sseq, sAsg, sPar, sIf, sRet, sExpr, hold, tst, truO, truD, vNot, vAnd, vOr, bAnd, bOr, bNot, eIf, bB, gv, gvs, eTup, eLst, lift, callU, callK, callT, evK, pick, prep, insOf, backTo, fnCR, sSetIx, eMut, itV, itR1, itR2, itE, itZ, itemsOf, sFor, fIsi, tyO, tyD, isTy, isTys, fLen, fAbs, fInt, fMin, fMax, seqO, lsqO, lstO, allS, addI, subI, fNeg, gGt, gGe, gLe, fIx, fSl, fRev, fListA, fList, gIsN, isNon, eqB]
    | int b =>
      refine ans (e1 := [some (.s (.int b)), some (.s (.int b)), none, none]) (go (goE (e1 := [some (.s (.int b)), some (.s (.int b)), none, none]) (by simp [eSl, pNo, pSo, eRev, bd, MI.ret, eVar, eD, op2, op1, op3, evs, callB, lookAll, look, opnd, frz, frzs, sseq, sAsg, sPar, sIf, sRet, sExpr, hold, tst, truO, truD, vNot, vAnd, vOr, bAnd, bOr, bNot, eIf, bB, gv, gvs, eTup, eLst, lift, callU, callK, callT, evK, pick, prep, insOf, backTo, fnCR, sSetIx, eMut, itV, itR1, itR2, itE, itZ, itemsOf, sFor, fIsi, tyO, tyD, isTy, isTys, fLen, fAbs, fInt, fMin, fMax, seqO, lsqO, lstO, allS, addI, subI, fNeg, gGt, gGe, gLe, fIx, fSl, fRev, fListA, fList, gIsN, isNon]) rfl) (go (goE (e1 := [some (.s (.int b)), some (.s (.int b)), none, none]) (by simp [eSl, pNo, pSo, eRev, bd, MI.ret, eVar, eD, op2, op1, op3, evs, callB, lookAll, look, opnd, frz, frzs, sseq, sAsg, sPar, sIf, sRet, sExpr, hold, tst, truO, truD, vNot, vAnd, vOr, bAnd, bOr, bNot, eIf, bB, gv, gvs, eTup, eLst, lift, callU, callK, callT, evK, pick, prep, insOf, backTo, fnCR, sSetIx, eMut, itV, itR1, itR2, itE, itZ, itemsOf, sFor, fIsi, tyO, tyD, isTy, isTys, fLen, fAbs, fInt, fMin, fMax, seqO, lsqO, lstO, allS, addI, subI, fNeg, gGt, gGe, gLe, fIx, fSl, fRev, fListA, fList, gIsN, isNon]) rfl) (go (goE (e1 := [some (.s (.int b)), some (.s (.int b)), none, none]) (by simp [eSl, pNo, pSo, eRev, bd, MI.ret, eVar, eD, op2, op1, op3, evs, callB, lookAll, look, opnd, frz, frzs, sseq, sAsg, sPar, sIf, sRet, sExpr, hold, tst, truO, truD, vNot, vAnd, vOr, bAnd, bOr, bNot, eIf, bB, gv, gvs, eTup, eLst, lift, callU, callK, callT, evK, pick, prep, insOf, backTo, fnCR, sSetIx, eMut, itV, itR1, itR2, itE, itZ, itemsOf, sFor, fIsi, tyO, tyD, isTy, isTys, fLen, fAbs, fInt, fMin, fMax, seqO, lsqO, lstO, allS, addI, subI, fNeg, gGt, gGe, gLe, fIx, fSl, fRev, fListA, fList, gIsN, isNon]) rfl) (goV ?_))))
      simp [eSl, pNo, pSo, eRev, bd, MI.ret, eVar, eD, op2, op1, op3, evs, callB, lookAll, look, opnd, frz, frzs, sseq, sAsg, sPar, sIf, sRet, sExpr, hold, tst, truO, truD, vNot, vAnd, vOr, bAnd, bOr, bNot, eIf, bB, gv, gvs, eTup, eLst, lift, callU, callK, callT, evK, pick, prep, insOf, backTo, fnCR, sSetIx, eMut, itV, itR1, itR2, itE, itZ, itemsOf, sFor, fIsi, tyO, tyD, isTy, isTys, fLen, fAbs, fInt, fMin, fMax, seqO, lsqO, lstO, allS, addI, subI, fNeg, gGt, gGe, gLe, fIx, fSl, fRev, fListA, fList, gIsN, isNon, eqI]
    | str b =>
      have ho' : okS b = true := ho
      refine ans (e1 := [some (.s (.str b)), some (.s (.str b)), none, none]) (go (goE (e1 := [some (.s (.str b)), some (.s (.str b)), none, none]) (by simp [eSl, pNo, pSo, eRev, bd, MI.ret, eVar, eD, op2, op1, op3, evs, callB, lookAll, look, opnd, frz, frzs, sseq, sAsg, sPar, sIf, sRet, sExpr, hold, tst, truO, truD, vNot, vAnd, vOr, bAnd, bOr, bNot, eIf, bB, gv, gvs, eTup, eLst, lift, callU, callK, callT, evK, pick, prep, insOf, backTo, fnCR, sSetIx, eMut, itV, itR1, itR2, itE, itZ, itemsOf, sFor, fIsi, tyO, tyD, isTy, isTys, fLen, fAbs, fInt, fMin, fMax, seqO, lsqO, lstO, allS, addI, subI, fNeg, gGt, gGe, gLe, fIx, fSl, fRev, fListA, fList, gIsN, isNon]) rfl) (go (goE (e1 := [some (.s (.str b)), some (.s (.str b)), none, none]) (by simp [eSl, pNo, pSo, eRev, bd, MI.ret, eVar, eD, op2, op1, op3, evs, callB, lookAll, look, opnd, frz, frzs, sseq, sAsg, sPar, sIf, sRet, sExpr, hold, tst, truO, truD, vNot, vAnd, vOr, bAnd, bOr, bNot, eIf, bB, gv, gvs, eTup, eLst, lift, callU, callK, callT, evK, pick, prep, insOf, backTo, fnCR, sSetIx, eMut, itV, itR1, itR2, itE, itZ, itemsOf, sFor, fIsi, tyO, tyD, isTy, isTys, fLen, fAbs, fInt, fMin, fMax, seqO, lsqO, lstO, allS, addI, subI, fNeg, gGt, gGe, gLe, fIx, fSl, fRev, fListA, fList, gIsN, isNon]) rfl) (goR (goT (e1 := [some (.s (.str b)), some (.s (.str b)), none, none]) (by simp [eSl, pNo, pSo, eRev, bd, MI.ret, eVar, eD, op2, op1, op3, evs, callB, lookAll, look, opnd, frz, frzs, sseq, sAsg, sPar, sIf, sRet, sExpr, hold, tst, truO, truD, vNot, vAnd, vOr, bAnd, bOr, bNot, eIf, bB, gv, gvs, eTup, eLst, lift, callU, callK, callT, evK, pick, prep, insOf, backTo, fnCR, sSetIx, eMut, itV, itR1, itR2, itE, itZ, itemsOf, sFor, fIsi, tyO, tyD, isTy, isTys, fLen, fAbs, fInt, fMin, fMax, seqO, lsqO, lstO, allS, addI, subI, fNeg, gGt, gGe, gLe, fIx, fSl, fRev, fListA, fList, gIsN, isNon]) (goV ?_)))))
      simp [eSl, pNo, pSo, eRev, bd, MI.ret, eVar, eD, op2, op1, op3, evs, callB, lookAll, look, opnd, frz, frzs, sseq, sAsg, sPar, sIf, sRet, sExpr, hold, tst, truO, truD, vNot, vAnd, vOr, bAnd, bOr, bNot, eIf, bB, gv, gvs, eTup, eLst, lift, callU, callK, callT, evK, pick, prep, insOf, backTo, fnCR, sSetIx, eMut, itV, itR1, itR2, itE, itZ, itemsOf, sFor, fIsi, tyO, tyD, isTy, isTys, fLen, fAbs, fInt, fMin, fMax, seqO, lsqO, lstO, allS, addI, subI, fNeg, gGt, gGe, gLe, fIx, fSl, fRev, fListA, fList, gIsN, isNon, eqB, eqS ho' ho']
    | lst ds =>
      simp only [okD, Bool.and_eq_true, decide_eq_true_eq] at ho
      simp only [dep] at hd
      exact same_list ho.1 fun d hdm => same_ok n d (okDs_mem ho.2 hdm) (by have := deps_mem hdm; omega)
    | tup ds =>
      simp only [okD, Bool.and_eq_true, decide_eq_true_eq] at ho
      simp only [dep] at hd
      exact same_tup ho.1 fun d hdm => same_ok n d (okDs_mem ho.2 hdm) (by have := deps_mem hdm; omega)
    | scr ds => cases ho
    | ty ds => cases ho
    | opq ds => cases ho
/-! ### the script made into boxes -/
theorem box_ok {cs : List Int} {k : Nat} (h : k < cs.length) (hk : k < 1000) : ∃ o, Tn 0 o ∧ Ans (c_law_box [.s (.lst (cs.map .int)), I k]) o := by
  obtain ⟨x, _, hx, ha⟩ := at_some (xs := cs) (d := k) (by omega) (by omega)
  have ha' : L2.atI (cs.map D.int) (k : Int) = some (.int x) := by
    have h0 : (0 : Int) ≤ k := by omega
    have h1 : (k : Int) < cs.length := by omega
    simp only [Int.toNat_natCast] at hx
    obtain ⟨_, hg⟩ := List.getElem?_eq_some_iff.mp hx
    simp [L2.atI, L2.ixN, h0, h, hg]
  have em : fMulA (I 39373) (I k) = some (I (39373 * k)) := mulL (by omega) (by omega)
  have em2 : ∀ (i : Int) (b : Bool), fMulA (I i) (I (if b = true then 1 else 0)) = some (I (i * (if b = true then 1 else 0))) := fun i b => mulR (by split <;> omega) (by split <;> omega)
  obtain ⟨A, hA⟩ : ∃ A : Int, op2 fMulA (callB fAbs [eVar 2]) (callB fInt [op2 (bB gGe) (callB fAbs [eVar 2]) (op2 fPow (eD (.int 10)) (eD (.int 18)))]) [some (.s (.lst (cs.map .int))), some (I k), some (I x)] = .ok (.v (I A)) [some (.s (.lst (cs.map .int))), some (I k), some (I x)] := by
    refine ⟨(if x < 0 then -x else x) * (if decide ((10 : Int) ^ 18 ≤ (if x < 0 then -x else x)) = true then 1 else 0), go2 (o1 := I (if x < 0 then -x else x)) (o2 := I (if decide ((10 : Int) ^ 18 ≤ (if x < 0 then -x else x)) = true then 1 else 0)) (r1 := .v (I (if x < 0 then -x else x))) (r2 := .v (I (if decide ((10 : Int) ^ 18 ≤ (if x < 0 then -x else x)) = true then 1 else 0))) rfl rfl rfl rfl (em2 _ _)⟩
  obtain ⟨B, hB⟩ : ∃ B : Int, op2 fAdd (op2 fAdd (op2 fMod (callB fInt [eVar 2]) (eD (.int 2305843009213693951))) (op2 fMulA (eD (.int 39373)) (eVar 1))) (eD (.int 8900000)) [some (.s (.lst (cs.map .int))), some (I k), some (I x)] = .ok (.v (I B)) [some (.s (.lst (cs.map .int))), some (I k), some (I x)] :=
    ⟨x % 2305843009213693951 + 39373 * k + 8900000, by simp [eSl, pNo, pSo, eRev, bd, MI.ret, eVar, eD, op2, op1, op3, evs, callB, lookAll, look, opnd, frz, frzs, sseq, sAsg, sPar, sIf, sRet, sExpr, hold, tst, truO, truD, vNot, vAnd, vOr, bAnd, bOr, bNot, eIf, bB, gv, gvs, eTup, eLst, lift, callU, callK, callT, evK, pick, prep, insOf, backTo, fnCR, sSetIx, eMut, itV, itR1, itR2, itE, itZ, itemsOf, sFor, fIsi, tyO, tyD, isTy, isTys, fLen, fAbs, fInt, fMin, fMax, seqO, lsqO, lstO, allS, addI, subI, fNeg, gGt, gGe, gLe, fIx, fSl, fRev, fListA, fList, gIsN, isNon, em, modE]⟩
  refine ⟨tinO A B 0, ⟨A, B, 0, rfl, by omega, by omega⟩, ans (go (e1 := [some (.s (.lst (cs.map .int))), some (I k), some (I x)]) ?_ (goV (goLst (evC hA (evC hB (evC (r := .v (I 0)) rfl ev0))) rfl)))⟩
  simp [eSl, pNo, pSo, eRev, bd, MI.ret, eVar, eD, op2, op1, op3, evs, callB, lookAll, look, opnd, frz, frzs, sseq, sAsg, sPar, sIf, sRet, sExpr, hold, tst, truO, truD, vNot, vAnd, vOr, bAnd, bOr, bNot, eIf, bB, gv, gvs, eTup, eLst, lift, callU, callK, callT, evK, pick, prep, insOf, backTo, fnCR, sSetIx, eMut, itV, itR1, itR2, itE, itZ, itemsOf, sFor, fIsi, tyO, tyD, isTy, isTys, fLen, fAbs, fInt, fMin, fMax, seqO, lsqO, lstO, allS, addI, subI, fNeg, gGt, gGe, gLe, fIx, fSl, fRev, fListA, fList, gIsN, isNon, h, ha', ltI]
theorem enum_at {ds : List D} {j : Nat} {d : D} (h : (enumD ds)[j]? = some d) : ∃ x, ds[j]? = some x ∧ d = .tup [.int j, x] := by
  unfold enumD at h
  rw [List.getElem?_map, List.getElem?_zipIdx] at h
  cases q : ds[j]? with
  | none => rw [q] at h; simp at h
  | some x =>
    rw [q] at h
    simp at h
    exact ⟨x, rfl, h.symm⟩
theorem cells_ok (ns : List Int) (hn : ns.length ≤ 63) : ∃ cs : List Int, 0 < cs.length ∧ cs.length ≤ 2 ∧ Ans (c_law_cells [.s (.scr (ns.map .int)), I 2]) (.s (.lst (cs.map .int))) := by
  match ns, hn with
  | [], _ => exact ⟨[0], by simp, by simp, _, rfl⟩
  | [a], _ => exact ⟨[a], by simp, by simp, _, rfl⟩
  | a :: b :: ns, hn =>
    obtain ⟨e', he, hP⟩ := loop_inv (tg := gTp [gNm 3, gNm 4]) (body := sseq (sAsg 5 (op2 fMod (callB fInt [eVar 3]) (eVar 1))) (sSetIx 2 (eVar 5) (op2 fAdd (op2 fIx (eVar 2) (eVar 5)) (op2 fMulA (eVar 4) (op2 fAdd (eVar 3) (eD (.int 2)))))))
      (fun i e => ∃ (x y : Int) (u v w : Option O), e = [some (.s (.scr ((a :: b :: ns).map .int))), some (I 2), some (.l [I x, I y]), u, v, w]) (enumD ((ns.take 61).map .int)) 0 [some (.s (.scr ((a :: b :: ns).map .int))), some (I 2), some (.l [I a, I b]), none, none, none] ⟨a, b, none, none, none, rfl⟩ fun j d e hj hp => by
        obtain ⟨x, y, u, v, w, rfl⟩ := hp
        obtain ⟨z, hz, rfl⟩ := enum_at hj
        have hjl := (List.getElem?_eq_some_iff.mp hz).1
        simp only [List.length_map, List.length_take] at hjl
        rw [List.getElem?_map] at hz
        obtain ⟨t, ht, rfl⟩ := Option.map_eq_some_iff.mp hz
        have em : ∀ i : Int, fMulA (I i) (I ((j : Int) + 2)) = some (I (i * ((j : Int) + 2))) := fun i => mulR (by omega) (by omega)
        rcases Nat.mod_two_eq_zero_or_one j with h2 | h2
        · have h3 : (j : Int) % 2 = 0 := by omega
          refine ⟨[some (.s (.scr ((a :: b :: ns).map .int))), some (I 2), some (.l [I x, I y]), some (I j), some (I t), w], [some (.s (.scr ((a :: b :: ns).map .int))), some (I 2), some (.l [I (x + t * (j + 2)), I y]), some (I j), some (I t), some (I 0)], rfl, go (e1 := [some (.s (.scr ((a :: b :: ns).map .int))), some (I 2), some (.l [I x, I y]), some (I j), some (I t), some (I 0)]) ?_ ?_, _, _, _, _, _, rfl⟩
          · simp [eSl, pNo, pSo, eRev, bd, MI.ret, eVar, eD, op2, op1, op3, evs, callB, lookAll, look, opnd, frz, frzs, sseq, sAsg, sPar, sIf, sRet, sExpr, hold, tst, truO, truD, vNot, vAnd, vOr, bAnd, bOr, bNot, eIf, bB, gv, gvs, eTup, eLst, lift, callU, callK, callT, evK, pick, prep, insOf, backTo, fnCR, sSetIx, eMut, itV, itR1, itR2, itE, itZ, itemsOf, sFor, fIsi, tyO, tyD, isTy, isTys, fLen, fAbs, fInt, fMin, fMax, seqO, lsqO, lstO, allS, addI, subI, fNeg, gGt, gGe, gLe, fIx, fSl, fRev, fListA, fList, gIsN, isNon, modE, h3]
          · simp [eSl, pNo, pSo, eRev, bd, MI.ret, eVar, eD, op2, op1, op3, evs, callB, lookAll, look, opnd, frz, frzs, sseq, sAsg, sPar, sIf, sRet, sExpr, hold, tst, truO, truD, vNot, vAnd, vOr, bAnd, bOr, bNot, eIf, bB, gv, gvs, eTup, eLst, lift, callU, callK, callT, evK, pick, prep, insOf, backTo, fnCR, sSetIx, eMut, itV, itR1, itR2, itE, itZ, itemsOf, sFor, fIsi, tyO, tyD, isTy, isTys, fLen, fAbs, fInt, fMin, fMax, seqO, lsqO, lstO, allS, addI, subI, fNeg, gGt, gGe, gLe, fIx, fSl, fRev, fListA, fList, gIsN, isNon, em, L2.atI, L2.ixN]
        · have h3 : (j : Int) % 2 = 1 := by omega
          refine ⟨[some (.s (.scr ((a :: b :: ns).map .int))), some (I 2), some (.l [I x, I y]), some (I j), some (I t), w], [some (.s (.scr ((a :: b :: ns).map .int))), some (I 2), some (.l [I x, I (y + t * (j + 2))]), some (I j), some (I t), some (I 1)], rfl, go (e1 := [some (.s (.scr ((a :: b :: ns).map .int))), some (I 2), some (.l [I x, I y]), some (I j), some (I t), some (I 1)]) ?_ ?_, _, _, _, _, _, rfl⟩
          · simp [eSl, pNo, pSo, eRev, bd, MI.ret, eVar, eD, op2, op1, op3, evs, callB, lookAll, look, opnd, frz, frzs, sseq, sAsg, sPar, sIf, sRet, sExpr, hold, tst, truO, truD, vNot, vAnd, vOr, bAnd, bOr, bNot, eIf, bB, gv, gvs, eTup, eLst, lift, callU, callK, callT, evK, pick, prep, insOf, backTo, fnCR, sSetIx, eMut, itV, itR1, itR2, itE, itZ, itemsOf, sFor, fIsi, tyO, tyD, isTy, isTys, fLen, fAbs, fInt, fMin, fMax, seqO, lsqO, lstO, allS, addI, subI, fNeg, gGt, gGe, gLe, fIx, fSl, fRev, fListA, fList, gIsN, isNon, modE, h3]
          · simp [eSl, pNo, pSo, eRev, bd, MI.ret, eVar, eD, op2, op1, op3, evs, callB, lookAll, look, opnd, frz, frzs, sseq, sAsg, sPar, sIf, sRet, sExpr, hold, tst, truO, truD, vNot, vAnd, vOr, bAnd, bOr, bNot, eIf, bB, gv, gvs, eTup, eLst, lift, callU, callK, callT, evK, pick, prep, insOf, backTo, fnCR, sSetIx, eMut, itV, itR1, itR2, itE, itZ, itemsOf, sFor, fIsi, tyO, tyD, isTy, isTys, fLen, fAbs, fInt, fMin, fMax, seqO, lsqO, lstO, allS, addI, subI, fNeg, gGt, gGe, gLe, fIx, fSl, fRev, fListA, fList, gIsN, isNon, em, L2.atI, L2.ixN]
    obtain ⟨x, y, u, v, w, rfl⟩ := hP
    refine ⟨[x, y], by simp, by simp, ans (go (e1 := [some (.s (.scr ((a :: b :: ns).map .int))), some (I 2), some (.l [I a, I b]), none, none, none]) ?_ (go (goF (ds := enumD ((ns.take 61).map .int)) ?_ he) (goN rfl rfl)))⟩
    · simp [eSl, pNo, pSo, eRev, bd, MI.ret, eVar, eD, op2, op1, op3, evs, callB, lookAll, look, opnd, frz, frzs, sseq, sAsg, sPar, sIf, sRet, sExpr, hold, tst, truO, truD, vNot, vAnd, vOr, bAnd, bOr, bNot, eIf, bB, gv, gvs, eTup, eLst, lift, callU, callK, callT, evK, pick, prep, insOf, backTo, fnCR, sSetIx, eMut, itV, itR1, itR2, itE, itZ, itemsOf, sFor, fIsi, tyO, tyD, isTy, isTys, fLen, fAbs, fInt, fMin, fMax, seqO, lsqO, lstO, allS, addI, subI, fNeg, gGt, gGe, gLe, fIx, fSl, fRev, fListA, fList, gIsN, isNon, cutL, HT.sIx]

    · have e : List.take (min 63 (ns.length + 1 + 1) - 2) (ns.map (O.s ∘ D.int)) = ((ns.take 61).map D.int).map O.s := by
        rw [List.map_map, List.map_take]
        rcases Nat.le_total ns.length 61 with h | h
        · rw [List.take_of_length_le (by simp; omega), List.take_of_length_le (by simp; omega)]
        · rw [show min 63 (ns.length + 1 + 1) - 2 = 61 by omega]
      simp [eSl, pNo, pSo, eRev, bd, MI.ret, eVar, eD, op2, op1, op3, evs, callB, lookAll, look, opnd, frz, frzs, sseq, sAsg, sPar, sIf, sRet, sExpr, hold, tst, truO, truD, vNot, vAnd, vOr, bAnd, bOr, bNot, eIf, bB, gv, gvs, eTup, eLst, lift, callU, callK, callT, evK, pick, prep, insOf, backTo, fnCR, sSetIx, eMut, itV, itR1, itR2, itE, itZ, itemsOf, sFor, fIsi, tyO, tyD, isTy, isTys, fLen, fAbs, fInt, fMin, fMax, seqO, lsqO, lstO, allS, addI, subI, fNeg, gGt, gGe, gLe, fIx, fSl, fRev, fListA, fList, gIsN, isNon, cutL, HT.sIx]
      rw [e, frzs_map, List.map_take]
end K02
namespace K02
open MI
/-! comprehensions over a text's signs, over ranges -/
theorem own_none {e : Env} {k : Nat} (hk : e.set k none = e) : (e[k]?).join = none := by
  by_cases h : k < e.length
  · rw [← hk, List.getElem?_set_self h]; rfl
  · rw [List.getElem?_eq_none (by omega)]; rfl
theorem rest_own {e : Env} {k : Nat} (hk : e.set k none = e) : restE e [k] e = e := by
  simp [restE, own_none hk]
theorem wipe_own {e : Env} {k : Nat} (hk : e.set k none = e) (x : Option O) : wipeE (e.set k x) [k] = e := by
  simp only [wipeE, List.set_set]
  exact hk
theorem map_str {e : Env} {i k : Nat} {x : List Nat} {elt : EM Rs} (g : Nat → D) (hx : (e[i]?).join = some (.s (.str x))) (hk : e.set k none = e) (hl : x.length ≤ 16777216)
    (h : ∀ c ∈ x, elt (e.set k (some (.s (.str [c])))) = .ok (.v (.s (g c))) (e.set k (some (.s (.str [c]))))) : eLc (itV (eVar i)) (gNm k) (MI.ret true) elt [k] e = .ok (.v (.l ((x.map g).map .s))) e := by
  have hi : e.set i (some (.s (.str x))) = e := by
    refine List.ext_getElem? fun j => ?_
    rw [List.getElem?_set]
    by_cases hj : i = j
    · subst hj
      rw [if_pos rfl]
      cases q : e[i]? with
      | none => rw [q] at hx; cases hx
      | some y =>
        rw [q] at hx
        simp only [Option.join_some] at hx
        obtain ⟨hlt, _⟩ := List.getElem?_eq_some_iff.mp q
        rw [if_pos hlt, hx]
    · rw [if_neg hj]
  have hw : wipeE e [k] = e := hk
  have hit : itV (eVar i) e = .ok (chs x) e := by
    simp only [itV, bd, eVar, hx, gv, frz, hi, lift, itemsOf]
    rfl
  have hm : lcLoop (gNm k) (MI.ret true) elt [k] (chs x) e = .ok (x.map g) e := by
    have e0 : x.map g = ((chs x).filter fun _ => true).map fun d => g (unch d) := by
      rw [List.filter_eq_self.mpr (by simp)]
      simp [chs, Function.comp_def, unch]
    rw [e0]
    refine lc_pure (fun _ => true) (fun d => g (unch d)) _ fun d hd => ?_
    obtain ⟨c, hc, rfl⟩ := List.mem_map.mp hd
    exact ⟨e.set k (some (.s (.str [c]))), e.set k (some (.s (.str [c]))), rfl, rfl, by simp, fun _ => ⟨_, _, e.set k (some (.s (.str [c]))), h c hc, rfl, wipe_own hk _⟩⟩
  have := goL (cond := MI.ret true) hit (by rw [hw]; exact hm) (by simpa using hl)
  rw [rest_own hk] at this
  exact this
theorem bls_map (p : Nat → Bool) : ∀ x : List Nat, blsOf (x.map fun c => D.bl (p c)) = some (x.map p)
  | [] => rfl
  | c :: x => by
    show (match blsOf (x.map fun c => D.bl (p c)) with
      | some bs => some (p c :: bs)
      | none => none) = _
    rw [bls_map p x]
    rfl
theorem all_str {e : Env} {i k : Nat} {x : List Nat} {elt : EM Rs} (p : Nat → Bool) (hx : (e[i]?).join = some (.s (.str x))) (hk : e.set k none = e) (hl : x.length ≤ 16777216)
    (h : ∀ c ∈ x, elt (e.set k (some (.s (.str [c])))) = .ok (.v (.s (.bl (p c)))) (e.set k (some (.s (.str [c]))))) : callB fAll [eLc (itV (eVar i)) (gNm k) (MI.ret true) elt [k]] e = .ok (.v (.s (.bl (x.all p)))) e := by
  have ha : (x.map p).all id = x.all p := by simp [List.all_map, Function.comp_def]
  exact goB1 (map_str (fun c => .bl (p c)) hx hk hl h) rfl (by simp only [fAll, lsqO, lstO, frz_l, bls_map, ha])
def rngI (lo hi : Int) : List Int := (List.range (hi - lo).toNat).map fun i : Nat => lo + i
theorem rng_map (lo hi : Int) : rngD lo hi = (rngI lo hi).map .int := by simp [rngD, rngI, Function.comp_def]
def unint : D → Int
  | .int i => i
  | _ => 0
theorem mem_rngI {lo hi i : Int} (h : i ∈ rngI lo hi) : lo ≤ i ∧ i < hi := by
  obtain ⟨j, hj, rfl⟩ := List.mem_map.mp h
  have := List.mem_range.mp hj
  omega
theorem map_rng {e : Env} {k : Nat} {lo hi : Int} {it : EM (List D)} {cond : EM Bool} (p : Int → Bool) (hit : it e = .ok (rngD lo hi) e) (hk : e.set k none = e) (hlt : k < e.length) (hl : (hi - lo).toNat ≤ 16777216)
    (h : ∀ i, lo ≤ i → i < hi → cond (e.set k (some (I i))) = .ok (p i) (e.set k (some (I i)))) : eLc it (gNm k) cond (eVar k) [k] e = .ok (.v (.l ((((rngI lo hi).filter p).map .int).map .s))) e := by
  have hw : wipeE e [k] = e := hk
  have hm : lcLoop (gNm k) cond (eVar k) [k] (rngD lo hi) e = .ok (((rngI lo hi).filter p).map .int) e := by
    have e0 : ((rngI lo hi).filter p).map D.int = ((rngD lo hi).filter fun d => p (unint d)).map fun d => .int (unint d) := by
      rw [rng_map, List.filter_map, List.map_map]
      rfl
    rw [e0]
    refine lc_pure (fun d => p (unint d)) (fun d => .int (unint d)) _ fun d hd => ?_
    rw [rng_map] at hd
    obtain ⟨i, hi', rfl⟩ := List.mem_map.mp hd
    obtain ⟨h1, h2⟩ := mem_rngI hi'
    refine ⟨e.set k (some (I i)), e.set k (some (I i)), rfl, h i h1 h2, fun _ => wipe_own hk _, fun _ => ⟨.nm k, e.set k (some (I i)), e.set k (some (I i)), ?_, ?_, wipe_own hk _⟩⟩
    · simp [eVar, hlt]
    · simp [gv, hlt, frz, unint]
  have hll : (((rngI lo hi).filter p).map D.int).length ≤ 16777216 := by
    rw [List.length_map]
    refine Nat.le_trans (List.length_filter_le _ _) ?_
    simpa [rngI] using hl
  have := goL hit (by rw [hw]; exact hm) hll
  rw [rest_own hk] at this
  exact this
/-! letters -/
theorem subIn_one (c : Nat) : ∀ x : List Nat, subIn [c] x = decide (c ∈ x)
  | [] => by simp [subIn]
  | d :: x => by
    rw [subIn, subIn_one c x]
    by_cases h : c = d
    · simp [h]
    · have : ¬ (c == d) = true := by simpa using h
      simp [List.isPrefixOf, this, h]
theorem gIn_one {c : Nat} {x : List Nat} : gIn (.s (.str [c])) (.s (.str x)) = some (decide (c ∈ x)) := by
  simp [gIn, gInS, subIn_one]
def lettersB (x : List Nat) : Bool := x.all fun c => decide (c ∈ k_SMALL) && decide ((x.count c : Int) = 1)
theorem letters_ok {x : List Nat} (hx : x ≠ []) (ho : okS x = true) (hl : x.length ≤ 16777216) : Ans (c_is_letters [.s (.str x)]) (.s (.bl (lettersB x))) := by
  have h0 : ([] : List Nat) ≠ x := fun h => hx h.symm
  refine ans (e1 := [some (.s (.str x)), none]) (go (goE (e1 := [some (.s (.str x)), none]) ?_ rfl) (goV ?_))
  · simp [eSl, pNo, pSo, eRev, bd, MI.ret, eVar, eD, op2, op1, op3, evs, callB, lookAll, look, opnd, frz, frzs, sseq, sAsg, sPar, sIf, sRet, sExpr, hold, tst, truO, truD, vNot, vAnd, vOr, bAnd, bOr, bNot, eIf, bB, gv, gvs, eTup, eLst, lift, callU, callK, callT, evK, pick, prep, insOf, backTo, fnCR, sSetIx, eMut, itV, itR1, itR2, itE, itZ, itemsOf, sFor, fIsi, tyO, tyD, isTy, isTys, fLen, fAbs, fInt, fMin, fMax, seqO, lsqO, lstO, allS, addI, subI, fNeg, gGt, gGe, gLe, fIx, fSl, fRev, fListA, fList, gIsN, isNon, eqS ho (show okS [] = true from rfl), hx]
  · refine all_str (i := 0) _ rfl rfl hl fun c hc => ?_
    by_cases hs : c ∈ k_SMALL
    · simp [eSl, pNo, pSo, eRev, bd, MI.ret, eVar, eD, op2, op1, op3, evs, callB, lookAll, look, opnd, frz, frzs, sseq, sAsg, sPar, sIf, sRet, sExpr, hold, tst, truO, truD, vNot, vAnd, vOr, bAnd, bOr, bNot, eIf, bB, gv, gvs, eTup, eLst, lift, callU, callK, callT, evK, pick, prep, insOf, backTo, fnCR, sSetIx, eMut, itV, itR1, itR2, itE, itZ, itemsOf, sFor, fIsi, tyO, tyD, isTy, isTys, fLen, fAbs, fInt, fMin, fMax, seqO, lsqO, lstO, allS, addI, subI, fNeg, gGt, gGe, gLe, fIx, fSl, fRev, fListA, fList, gIsN, isNon, gIn_one, hs, eSm, isS, fCount, eqI]
    · simp [eSl, pNo, pSo, eRev, bd, MI.ret, eVar, eD, op2, op1, op3, evs, callB, lookAll, look, opnd, frz, frzs, sseq, sAsg, sPar, sIf, sRet, sExpr, hold, tst, truO, truD, vNot, vAnd, vOr, bAnd, bOr, bNot, eIf, bB, gv, gvs, eTup, eLst, lift, callU, callK, callT, evK, pick, prep, insOf, backTo, fnCR, sSetIx, eMut, itV, itR1, itR2, itE, itZ, itemsOf, sFor, fIsi, tyO, tyD, isTy, isTys, fLen, fAbs, fInt, fMin, fMax, seqO, lsqO, lstO, allS, addI, subI, fNeg, gGt, gGe, gLe, fIx, fSl, fRev, fListA, fList, gIsN, isNon, gIn_one, hs]
theorem word_in_ok {x w : List Nat} (hl : w.length ≤ 16777216) : Ans (c_is_word_in [.s (.str x), .s (.str w)]) (.s (.bl (w.all fun c => decide (c ∈ x)))) := by
  refine ans (e1 := [some (.s (.str x)), some (.s (.str w)), none]) (goV (goAnd (r := .v (.s (.bl true))) (e1 := [some (.s (.str x)), some (.s (.str w)), none]) ?_ rfl rfl ?_))
  · simp [eSl, pNo, pSo, eRev, bd, MI.ret, eVar, eD, op2, op1, op3, evs, callB, lookAll, look, opnd, frz, frzs, sseq, sAsg, sPar, sIf, sRet, sExpr, hold, tst, truO, truD, vNot, vAnd, vOr, bAnd, bOr, bNot, eIf, bB, gv, gvs, eTup, eLst, lift, callU, callK, callT, evK, pick, prep, insOf, backTo, fnCR, sSetIx, eMut, itV, itR1, itR2, itE, itZ, itemsOf, sFor, fIsi, tyO, tyD, isTy, isTys, fLen, fAbs, fInt, fMin, fMax, seqO, lsqO, lstO, allS, addI, subI, fNeg, gGt, gGe, gLe, fIx, fSl, fRev, fListA, fList, gIsN, isNon]
  · refine all_str (i := 1) _ rfl rfl hl fun c hc => ?_
    simp [eSl, pNo, pSo, eRev, bd, MI.ret, eVar, eD, op2, op1, op3, evs, callB, lookAll, look, opnd, frz, frzs, sseq, sAsg, sPar, sIf, sRet, sExpr, hold, tst, truO, truD, vNot, vAnd, vOr, bAnd, bOr, bNot, eIf, bB, gv, gvs, eTup, eLst, lift, callU, callK, callT, evK, pick, prep, insOf, backTo, fnCR, sSetIx, eMut, itV, itR1, itR2, itE, itZ, itemsOf, sFor, fIsi, tyO, tyD, isTy, isTys, fLen, fAbs, fInt, fMin, fMax, seqO, lsqO, lstO, allS, addI, subI, fNeg, gGt, gGe, gLe, fIx, fSl, fRev, fListA, fList, gIsN, isNon, gIn_one]
end K02
namespace K02
open MI
/-- letters -/
structure Gd (L : List Nat) : Prop where
  ne : L ≠ []
  lt : lettersB L = true
  ok : okS L = true
  ln : L.length ≤ 26
theorem small_ok {c : Nat} (h : c ∈ k_SMALL) : c < 1114112 := by
  have : ∀ c ∈ k_SMALL, c < 1114112 := by decide
  exact this c h
theorem okS_of {x : List Nat} (h : ∀ c ∈ x, c < 1114112) : okS x = true := by
  simp only [okS, List.all_eq_true, decide_eq_true_eq]
  exact h
theorem okS_mem {x : List Nat} (h : okS x = true) {c : Nat} (hc : c ∈ x) : c < 1114112 := by
  simp only [okS, List.all_eq_true, decide_eq_true_eq] at h
  exact h c hc
theorem gd_small : Gd k_SMALL := ⟨by decide, by decide, by decide, by decide⟩
theorem count_one {x : List Nat} (nd : x.Nodup) {c : Nat} (h : c ∈ x) : x.count c = 1 := by
  have h1 := List.nodup_iff_count.mp nd c
  have h2 := List.count_pos_iff.mpr h
  omega
theorem gd_of {L : List Nat} (ne : L ≠ []) (nd : L.Nodup) (h : ∀ c ∈ L, c ∈ k_SMALL) (ln : L.length ≤ 26) : Gd L := ⟨ne, by
  simp only [lettersB, List.all_eq_true, Bool.and_eq_true, decide_eq_true_eq]
  exact fun c hc => ⟨h c hc, by rw [count_one nd hc]; rfl⟩, okS_of fun c hc => small_ok (h c hc), ln⟩
section
variable {L w a b : List Nat}
theorem Gd.is (g : Gd L) : Ans (c_is_letters [.s (.str L)]) (.s (.bl true)) := by
  have := letters_ok g.ne g.ok (by have := g.ln; omega)
  rw [g.lt] at this
  exact this
theorem sure_letters_ok (g : Gd L) : Ans (c_sure_letters [.s (.str L)]) (.s (.str L)) := by
  obtain ⟨_, h⟩ := g.is
  refine ans (e1 := [some (.s (.str L))]) (go (e1 := [some (.s (.str L))]) ?_ (goN rfl rfl))
  simp [eSl, pNo, pSo, eRev, bd, MI.ret, eVar, eD, op2, op1, op3, evs, callB, lookAll, look, opnd, frz, frzs, sseq, sAsg, sPar, sIf, sRet, sExpr, hold, tst, truO, truD, vNot, vAnd, vOr, bAnd, bOr, bNot, eIf, bB, gv, gvs, eTup, eLst, lift, callU, callK, callT, evK, pick, prep, insOf, backTo, fnCR, sSetIx, eMut, itV, itR1, itR2, itE, itZ, itemsOf, sFor, fIsi, tyO, tyD, isTy, isTys, fLen, fAbs, fInt, fMin, fMax, seqO, lsqO, lstO, allS, addI, subI, fNeg, gGt, gGe, gLe, fIx, fSl, fRev, fListA, fList, gIsN, isNon, h]
/-- words -/
def wIn (L w : List Nat) : Bool := w.all fun c => decide (c ∈ L)
/-! which stands ahead -/
def keyD (L w : List Nat) : D := .tup [.int w.length, .lst (w.map fun c => .int (L.idxOf c))]
theorem idx_lc {e : Env} {i k j : Nat} (hx : (e[i]?).join = some (.s (.str w))) (hk : e.set k none = e) (hL : (e[j]?).join = some (.s (.str L))) (hjk : j ≠ k) (hkl : k < e.length) (hl : w.length ≤ 16777216) (hw : wIn L w = true) :
    eLc (itV (eVar i)) (gNm k) (MI.ret true) (eSm fIndex (eVar j) (eVar k)) [k] e = .ok (.v (.l ((w.map fun c => .int (L.idxOf c)).map .s))) e := by
  refine map_str _ hx hk hl fun c hc => ?_
  have hm : c ∈ L := by
    have := List.all_eq_true.mp hw c hc
    simpa using this
  have h1 : ((e.set k (some (O.s (.str [c]))))[j]?).join = some (.s (.str L)) := by rw [List.getElem?_set_ne (Ne.symm hjk)]; exact hL
  have h2 : ((e.set k (some (O.s (.str [c]))))[k]?).join = some (.s (.str [c])) := by rw [List.getElem?_set_self hkl]; rfl
  refine goSm (r1 := .nm j) (r2 := .nm k) (e1 := e.set k (some (.s (.str [c])))) ?_ h1 ?_ h1 h2 (by simp [fIndex, hm])
  · simp [eVar, h1]
  · simp [eVar, h2]
theorem key_ok (hl : w.length ≤ 16777216) (hw : wIn L w = true) : Ans (c_key_of [.s (.str L), .s (.str w)]) (.s (keyD L w)) := by
  have h := idx_lc (e := [some (.s (.str L)), some (.s (.str w)), none]) (i := 1) (k := 2) (j := 0) rfl rfl rfl (by decide) (by simp) hl hw
  exact ans (e1 := [some (.s (.str L)), some (.s (.str w)), none]) (goV (goTup (evC (r := .v (.s (.int w.length))) rfl (evC h ev0)) (by simp only [gvs, gv, opnd, bd, MI.ret, frz, frzs_map])))
def ltInts : List Int → List Int → Bool
  | [], ys => !ys.isEmpty
  | _ :: _, [] => false
  | x :: xs, y :: ys => if x = y then ltInts xs ys else decide (x < y)
theorem ltPs_ints : ∀ xs ys : List Int, ltPs (xs.map .int) (ys.map .int) = some (ltInts xs ys)
  | [], ys => by cases ys <;> rfl
  | x :: xs, [] => rfl
  | x :: xs, y :: ys => by
    simp only [List.map_cons, ltPs, ltPs_ints xs ys, ltInts, PySem.PyData.eqv, ltP]
    by_cases h : x = y <;> simp [h]
theorem toPs_ints : ∀ xs : List Int, toPs (xs.map .int) = some (xs.map .int)
  | [] => rfl
  | x :: xs => by simp [toPs, toP, toPs_ints xs]
theorem can_ints : ∀ xs : List Int, PySem.PyData.canLayAll0 (xs.map .int) = true ∧ PySem.PyData.depthAll (xs.map .int) = 0
  | [] => ⟨rfl, rfl⟩
  | x :: xs => by
    obtain ⟨h1, h2⟩ := can_ints xs
    simp [PySem.PyData.canLayAll0, PySem.PyData.depthAll, h1, h2, PySem.PyData.canLay0, PySem.PyData.depth]
def idxs (L w : List Nat) : List Int := w.map fun c => (L.idxOf c : Int)

theorem toP_key : toP (keyD L w) = some (.tuple [.int w.length, .list ((idxs L w).map .int)]) := by
  have : (w.map fun c => D.int (L.idxOf c)) = (idxs L w).map .int := by simp [idxs, Function.comp_def]
  simp only [keyD, toP, toPs, this, toPs_ints]
theorem key_lt : ∃ k, gLtD (.s (keyD L a)) (.s (keyD L b)) = some k := by
  simp only [gLtD, frz, toP_key]
  have s1 : ∀ w : List Nat, PySem.SeqAt.shaped (.tuple [.int w.length, .list ((idxs L w).map .int)]) = true := fun w => by
    obtain ⟨h1, h2⟩ := can_ints (idxs L w)
    simp [PySem.SeqAt.shaped, PySem.PyData.canLay0, PySem.PyData.canLayAll0, PySem.PyData.depth, PySem.PyData.depthAll, h1, h2]
  simp only [s1, Bool.and_self, if_true, ltP, ltPs, ltPs_ints]
  cases h1 : PySem.PyData.eqv (.list ((idxs L a).map .int)) (.list ((idxs L b).map .int)) <;> cases h2 : PySem.PyData.eqv (.int a.length) (.int b.length) <;> simp
def aheadB (L a b : List Nat) : Bool := (gLtD (.s (keyD L a)) (.s (keyD L b))).getD false
theorem ahead_lt : gLtD (.s (keyD L a)) (.s (keyD L b)) = some (aheadB L a b) := by
  obtain ⟨k, h⟩ := key_lt (L := L) (a := a) (b := b)
  simp [aheadB, h]
theorem is_ahead_ok (ha : a.length ≤ 16777216) (hb : b.length ≤ 16777216) (wa : wIn L a = true) (wb : wIn L b = true) : Ans (c_is_ahead [.s (.str L), .s (.str a), .s (.str b)]) (.s (.bl (aheadB L a b))) := by
  obtain ⟨_, h1⟩ := key_ok ha wa
  obtain ⟨_, h2⟩ := key_ok hb wb
  have h3 : gLtD (.s (frz (.s (keyD L a)))) (.s (keyD L b)) = some (aheadB L a b) := ahead_lt
  refine ans (e1 := [some (.s (.str L)), some (.s (.str a)), some (.s (.str b))]) (goV (go2 (r1 := .v (.s (keyD L a))) (r2 := .v (.s (keyD L b))) (e1 := [some (.s (.str L)), some (.s (.str a)), some (.s (.str b))]) ?_ ?_ rfl rfl (by simp only [bB, frz, ahead_lt])))
  · simp [eSl, pNo, pSo, eRev, bd, MI.ret, eVar, eD, op2, op1, op3, evs, callB, lookAll, look, opnd, frz, frzs, sseq, sAsg, sPar, sIf, sRet, sExpr, hold, tst, truO, truD, vNot, vAnd, vOr, bAnd, bOr, bNot, eIf, bB, gv, gvs, eTup, eLst, lift, callU, callK, callT, evK, pick, prep, insOf, backTo, fnCR, sSetIx, eMut, itV, itR1, itR2, itE, itZ, itemsOf, sFor, fIsi, tyO, tyD, isTy, isTys, fLen, fAbs, fInt, fMin, fMax, seqO, lsqO, lstO, allS, addI, subI, fNeg, gGt, gGe, gLe, fIx, fSl, fRev, fListA, fList, gIsN, isNon, h1]
  · simp [eSl, pNo, pSo, eRev, bd, MI.ret, eVar, eD, op2, op1, op3, evs, callB, lookAll, look, opnd, frz, frzs, sseq, sAsg, sPar, sIf, sRet, sExpr, hold, tst, truO, truD, vNot, vAnd, vOr, bAnd, bOr, bNot, eIf, bB, gv, gvs, eTup, eLst, lift, callU, callK, callT, evK, pick, prep, insOf, backTo, fnCR, sSetIx, eMut, itV, itR1, itR2, itE, itZ, itemsOf, sFor, fIsi, tyO, tyD, isTy, isTys, fLen, fAbs, fInt, fMin, fMax, seqO, lsqO, lstO, allS, addI, subI, fNeg, gGt, gGe, gLe, fIx, fSl, fRev, fListA, fList, gIsN, isNon, h2]
theorem law_ahead_ok (ha : a.length ≤ 16777216) (hb : b.length ≤ 16777216) (wa : wIn L a = true) (wb : wIn L b = true) : Ans (c_law_ahead [.s (.str L), .s (.str a), .s (.str b)]) (.s (.bl (aheadB L a b))) := by
  have h1 := idx_lc (e := [some (.s (.str L)), some (.s (.str a)), some (.s (.str b)), none, none]) (i := 1) (k := 4) (j := 0) rfl rfl rfl (by decide) (by simp) ha wa
  have h2 := idx_lc (e := [some (.s (.str L)), some (.s (.str a)), some (.s (.str b)), some (.s (keyD L a)), none]) (i := 2) (k := 4) (j := 0) rfl rfl rfl (by decide) (by simp) hb wb
  have t1 := goTup (e2 := [some (.s (.str L)), some (.s (.str a)), some (.s (.str b)), none, none]) (evC (r := .v (.s (.int a.length))) (m := callB fLen [eVar 1]) (e := [some (.s (.str L)), some (.s (.str a)), some (.s (.str b)), none, none]) rfl (evC h1 ev0)) (ds := [.int a.length, .lst (a.map fun c => .int (L.idxOf c))]) (by simp only [gvs, gv, opnd, bd, MI.ret, frz, frzs_map])
  have t2 := goTup (e2 := [some (.s (.str L)), some (.s (.str a)), some (.s (.str b)), some (.s (keyD L a)), none]) (evC (r := .v (.s (.int b.length))) (m := callB fLen [eVar 2]) (e := [some (.s (.str L)), some (.s (.str a)), some (.s (.str b)), some (.s (keyD L a)), none]) rfl (evC h2 ev0)) (ds := [.int b.length, .lst (b.map fun c => .int (L.idxOf c))]) (by simp only [gvs, gv, opnd, bd, MI.ret, frz, frzs_map])
  exact ans (go (goA t1) (goV (go2 (r1 := .nm 3) (e1 := [some (.s (.str L)), some (.s (.str a)), some (.s (.str b)), some (.s (keyD L a)), none]) rfl t2 rfl rfl (by simp only [bB]; rw [show (O.s (D.tup [.int b.length, .lst (b.map fun c => .int (L.idxOf c))])) = .s (keyD L b) from rfl, ahead_lt]))))
end
end K02
namespace K02
open MI
/-! what is a rule, a book: for whatever thing -/
def isL : D → Bool
  | .str x => !x.isEmpty && lettersB x
  | _ => false
def isW (L : List Nat) : D → Bool
  | .str x => wIn L x
  | _ => false
mutual
def okV : D → Bool
  | .non => true
  | .bl _ => true
  | .int _ => true
  | .str x => okS x && decide (x.length ≤ 1000)
  | .tup ds => decide (ds.length ≤ 1000) && okVs ds
  | .lst ds => decide (ds.length ≤ 1000) && okVs ds
  | .scr _ => false
  | .ty _ => false
  | .opq _ => false
def okVs : List D → Bool
  | [] => true
  | d :: ds => okV d && okVs ds
end
theorem okVs_mem : ∀ {ds : List D} {d : D}, okVs ds = true → d ∈ ds → okV d = true
  | e :: ds, d, h, hd => by
    simp only [okVs, Bool.and_eq_true] at h
    rcases List.mem_cons.mp hd with rfl | z
    · exact h.1
    · exact okVs_mem h.2 z
theorem okVs_of : ∀ {ds : List D}, (∀ d ∈ ds, okV d = true) → okVs ds = true
  | [], _ => rfl
  | d :: ds, h => by
    simp only [okVs, Bool.and_eq_true]
    exact ⟨h d (by simp), okVs_of fun e he => h e (List.mem_cons_of_mem _ he)⟩
theorem isL_ok {d : D} (h : okV d = true) : Ans (c_is_letters [.s d]) (.s (.bl (isL d))) := by
  cases d with
  | str x =>
    simp only [okV, Bool.and_eq_true, decide_eq_true_eq] at h
    by_cases hx : x = []
    · subst hx
      refine ans (e1 := [some (.s (.str [])), none]) (goR (goT (e1 := [some (.s (.str [])), none]) ?_ rfl))
      simp [eSl, pNo, pSo, eRev, bd, MI.ret, eVar, eD, op2, op1, op3, evs, callB, lookAll, look, opnd, frz, frzs, sseq, sAsg, sPar, sIf, sRet, sExpr, hold, tst, truO, truD, vNot, vAnd, vOr, bAnd, bOr, bNot, eIf, bB, gv, gvs, eTup, eLst, lift, callU, callK, callT, evK, pick, prep, insOf, backTo, fnCR, sSetIx, eMut, itV, itR1, itR2, itE, itZ, itemsOf, sFor, fIsi, tyO, tyD, isTy, isTys, fLen, fAbs, fInt, fMin, fMax, seqO, lsqO, lstO, allS, addI, subI, fNeg, gGt, gGe, gLe, fIx, fSl, fRev, fListA, fList, gIsN, isNon, eqS (show okS [] = true from rfl) (show okS [] = true from rfl)]
    · have := letters_ok hx h.1 (by omega)
      have e : isL (.str x) = lettersB x := by
        cases x with
        | nil => exact absurd rfl hx
        | cons c x => rfl
      rw [e]
      exact this
  | non => exact ⟨_, rfl⟩
  | bl b => exact ⟨_, rfl⟩
  | int i => exact ⟨_, rfl⟩
  | tup ds => exact ⟨_, rfl⟩
  | lst ds => exact ⟨_, rfl⟩
  | scr ds => cases h
  | ty n => cases h
  | opq a => cases h
theorem isW_ok {L : List Nat} {d : D} (h : okV d = true) : Ans (c_is_word_in [.s (.str L), .s d]) (.s (.bl (isW L d))) := by
  cases d with
  | str x =>
    simp only [okV, Bool.and_eq_true, decide_eq_true_eq] at h
    exact word_in_ok (by omega)
  | non => exact ⟨_, rfl⟩
  | bl b => exact ⟨_, rfl⟩
  | int i => exact ⟨_, rfl⟩
  | tup ds => exact ⟨_, rfl⟩
  | lst ds => exact ⟨_, rfl⟩
  | scr ds => cases h
  | ty n => cases h
  | opq a => cases h
def isT2 : D → Bool
  | .tup ds => decide ((ds.length : Int) = 2)
  | _ => false
theorem long_ok {d : D} (h : okV d = true) : Ans (c_is_long [.s d, I 2]) (.s (.bl (isT2 d))) := by
  cases d with
  | tup ds => exact ans (e1 := [some (.s (.tup ds)), some (I 2)]) (goV (goAnd (r := .v (.s (.bl true))) (e1 := [some (.s (.tup ds)), some (I 2)]) rfl rfl rfl (go2 (r1 := .v (I ds.length)) (r2 := .nm 1) (e1 := [some (.s (.tup ds)), some (I 2)]) (e2 := [some (.s (.tup ds)), some (I 2)]) rfl rfl rfl rfl (by simp only [bB, eqI]; rfl))))
  | non => exact ⟨_, rfl⟩
  | bl b => exact ⟨_, rfl⟩
  | int i => exact ⟨_, rfl⟩
  | str ds => exact ⟨_, rfl⟩
  | lst ds => exact ⟨_, rfl⟩
  | scr ds => cases h
  | ty n => cases h
  | opq a => cases h
theorem isT2_of {d : D} (h : isT2 d = true) : ∃ a b, d = .tup [a, b] := by
  cases d with
  | tup ds =>
    simp only [isT2, decide_eq_true_eq] at h
    match ds, h with
    | [a, b], _ => exact ⟨a, b, rfl⟩
    | [], h => simp at h
    | [a], h => simp at h
    | a :: b :: c :: r, h => simp at h; omega
  | _ => cases h
def isRl (L : List Nat) : D → Bool
  | .tup [.str x, .str y] => wIn L x && (wIn L y && aheadB L y x)
  | _ => false
theorem notU {c : EM Bool} {k : Bool} {e e1 : Env} (h : c e = .ok k e1) : bNot c e = .ok (!k) e1 := goNot h
theorem rule_ok {L : List Nat} {d : D} (h : okV d = true) : Ans (c_is_rule [.s (.str L), .s d]) (.s (.bl (isRl L d))) := by
  have t1 : tst (callU c_is_long [false, false] [eVar 1, eD (.int 2)]) [some (.s (.str L)), some (.s d)] = .ok (isT2 d) [some (.s (.str L)), some (.s d)] := goTst (goUs (evC (r := .nm 1) rfl (evC (r := .v (I 2)) rfl ev0)) rfl (fun _ => rfl) (long_ok h)) rfl rfl
  cases h2 : isT2 d with
  | false =>
    rw [h2] at t1
    have e : isRl L d = false := by
      unfold isRl
      split
      · simp [isT2] at h2
      · rfl
    rw [e]
    exact ans (goR (goT (goOrT (goNot t1)) (goV rfl)))
  | true =>
    rw [h2] at t1
    obtain ⟨x, y, rfl⟩ := isT2_of h2
    have hx : okV x = true := okVs_mem (ds := [x, y]) (by simp only [okV, Bool.and_eq_true] at h; exact h.2) (by simp)
    have hy : okV y = true := okVs_mem (ds := [x, y]) (by simp only [okV, Bool.and_eq_true] at h; exact h.2) (by simp)
    have i0 : op2 fIx (eVar 1) (eD (.int 0)) [some (.s (.str L)), some (.s (.tup [x, y]))] = .ok (.v (.s x)) [some (.s (.str L)), some (.s (.tup [x, y]))] := go2 (r1 := .nm 1) (r2 := .v (I 0)) rfl rfl rfl rfl rfl
    have i1 : op2 fIx (eVar 1) (eD (.int 1)) [some (.s (.str L)), some (.s (.tup [x, y]))] = .ok (.v (.s y)) [some (.s (.str L)), some (.s (.tup [x, y]))] := go2 (r1 := .nm 1) (r2 := .v (I 1)) rfl rfl rfl rfl rfl
    have t2 : tst (callU c_is_word_in [false, false] [eVar 0, op2 fIx (eVar 1) (eD (.int 0))]) [some (.s (.str L)), some (.s (.tup [x, y]))] = .ok (isW L x) [some (.s (.str L)), some (.s (.tup [x, y]))] := goTst (goUs (evC (r := .nm 0) rfl (evC i0 ev0)) rfl (fun _ => rfl) (isW_ok hx)) rfl rfl
    have t3 : tst (callU c_is_word_in [false, false] [eVar 0, op2 fIx (eVar 1) (eD (.int 1))]) [some (.s (.str L)), some (.s (.tup [x, y]))] = .ok (isW L y) [some (.s (.str L)), some (.s (.tup [x, y]))] := goTst (goUs (evC (r := .nm 0) rfl (evC i1 ev0)) rfl (fun _ => rfl) (isW_ok hy)) rfl rfl
    have no : (isW L x = false ∨ isW L y = false) → isRl L (.tup [x, y]) = false := fun hh => by
      unfold isRl
      split
      · rename_i a b e
        simp only [D.tup.injEq, List.cons.injEq, and_true] at e
        obtain ⟨rfl, rfl⟩ := e
        rcases hh with z | z
        · rw [show wIn L a = false from z]; rfl
        · rw [show wIn L b = false from z]; simp
      · rfl
    cases w1 : isW L x with
    | false =>
      rw [w1] at t2
      rw [no (.inl w1)]
      exact ans (goR (goT (goOr (goNot t1) (goOrT (goNot t2))) (goV rfl)))
    | true =>
      rw [w1] at t2
      cases w2 : isW L y with
      | false =>
        rw [w2] at t3
        rw [no (.inr w2)]
        exact ans (goR (goT (goOr (goNot t1) (goOr (goNot t2) (goNot t3))) (goV rfl)))
      | true =>
        rw [w2] at t3
        cases x with
        | str a =>
          cases y with
          | str b =>
            simp only [okV, Bool.and_eq_true, decide_eq_true_eq] at hx hy
            have e : isRl L (.tup [.str a, .str b]) = aheadB L b a := by
              simp only [isRl, show wIn L a = true from w1, show wIn L b = true from w2, Bool.true_and]
            rw [e]
            have k := is_ahead_ok (L := L) (a := b) (b := a) (by omega) (by omega) w2 w1
            exact ans (go (goE (goOr (goNot t1) (goOr (goNot t2) (goNot t3))) rfl) (goV (goUs (evC (r := .nm 0) rfl (evC i1 (evC i0 ev0))) rfl (fun _ => rfl) k)))
          | _ => cases w2
        | _ => cases w1
end K02
namespace K02
open MI
abbrev Pr := List Nat × List Nat
def enc (p : Pr) : D := .tup [.str p.1, .str p.2]
def encs (ps : List Pr) : List D := ps.map enc
def incrB (L : List Nat) (ls : List (List Nat)) : Bool := (List.range (ls.length - 1)).all fun i => aheadB L (ls.getD i []) (ls.getD (i + 1) [])
def lefts : List D → List (List Nat)
  | [] => []
  | .tup (.str x :: _) :: ds => x :: lefts ds
  | _ :: ds => [] :: lefts ds
def isB : D → Bool
  | .tup [a, .tup rs] => match a with
    | .str L => isL (.str L) && (rs.all (isRl L) && incrB L (lefts rs))
    | _ => false
  | _ => false
theorem isRl_of {L : List Nat} {d : D} (h : isRl L d = true) : ∃ p : Pr, d = enc p ∧ wIn L p.1 = true ∧ wIn L p.2 = true ∧ aheadB L p.2 p.1 = true := by
  unfold isRl at h
  split at h
  · rename_i x y
    simp only [Bool.and_eq_true] at h
    exact ⟨(x, y), rfl, h.1, h.2.1, h.2.2⟩
  · cases h
theorem rules_of {L : List Nat} : ∀ {rs : List D}, rs.all (isRl L) = true → ∃ ps : List Pr, rs = encs ps ∧ ∀ p ∈ ps, wIn L p.1 = true ∧ wIn L p.2 = true ∧ aheadB L p.2 p.1 = true
  | [], _ => ⟨[], rfl, fun p hp => by cases hp⟩
  | d :: ds, h => by
    rw [List.all_cons, Bool.and_eq_true] at h
    obtain ⟨p, rfl, h1⟩ := isRl_of h.1
    obtain ⟨ps, rfl, h2⟩ := rules_of h.2
    refine ⟨p :: ps, rfl, fun q hq => ?_⟩
    rcases List.mem_cons.mp hq with rfl | z
    · exact h1
    · exact h2 q z
theorem lefts_encs : ∀ ps : List Pr, lefts (encs ps) = ps.map (·.1)
  | [] => rfl
  | p :: ps => by
    show p.1 :: lefts (encs ps) = _
    rw [lefts_encs ps]; rfl
theorem bls_all (f : D → Bool) : ∀ ds : List D, blsOf (ds.map fun d => D.bl (f d)) = some (ds.map f)
  | [] => rfl
  | d :: ds => by
    show (match blsOf (ds.map fun d => D.bl (f d)) with
      | some bs => some (f d :: bs)
      | none => none) = _
    rw [bls_all f ds]; rfl
theorem all_lc {e e1 : Env} {m : EM Rs} {f : D → Bool} {ds : List D} (h : m e = .ok (.v (.l ((ds.map fun d => D.bl (f d)).map .s))) e1) : callB fAll [m] e = .ok (.v (.s (.bl (ds.all f)))) e1 := by
  have ha : (ds.map f).all id = ds.all f := by simp [List.all_map, Function.comp_def]
  exact goB1 h rfl (by simp only [fAll, lsqO, lstO, frz_l, bls_all, ha])
theorem allL_lc {e e1 : Env} {m : EM Rs} {bs : List Bool} (h : m e = .ok (.v (.l ((bs.map D.bl).map .s))) e1) : callB fAll [m] e = .ok (.v (.s (.bl (bs.all id)))) e1 := by
  have : ∀ bs : List Bool, blsOf (bs.map D.bl) = some bs := fun bs => by
    induction bs with
    | nil => rfl
    | cons b bs ih =>
      show (match blsOf (bs.map D.bl) with
        | some bs => some (b :: bs)
        | none => none) = _
      rw [ih]
  exact goB1 h rfl (by simp only [fAll, lsqO, lstO, frz_l, this])
section
variable {L : List Nat} {rs : List D}
def be (L : List Nat) (rs : List D) (k : Option O) : Env := [some (.s (.tup [.str L, .tup rs])), k, none, none]
theorem bx0 (k : Option O) : op2 fIx (eVar 0) (eD (.int 0)) (be L rs k) = .ok (.v (.s (.str L))) (be L rs k) := go2 (r1 := .nm 0) (r2 := .v (I 0)) rfl rfl rfl rfl rfl
theorem bx1 (k : Option O) : op2 fIx (eVar 0) (eD (.int 1)) (be L rs k) = .ok (.v (.s (.tup rs))) (be L rs k) := go2 (r1 := .nm 0) (r2 := .v (I 1)) rfl rfl rfl rfl rfl
theorem bit (k : Option O) : itV (op2 fIx (eVar 0) (eD (.int 1))) (be L rs k) = .ok rs (be L rs k) := by simp only [itV, bd, bx1, gv, frz, lift, itemsOf]
theorem b_all (hl : rs.length ≤ 1000) (ho : okVs rs = true) (k : Option O) : callB fAll [eLc (itV (op2 fIx (eVar 0) (eD (.int 1)))) (gNm 2) (MI.ret true) (callU c_is_rule [false, false] [op2 fIx (eVar 0) (eD (.int 0)), eVar 2]) [2]] (be L rs k) = .ok (.v (.s (.bl (rs.all (isRl L))))) (be L rs k) := by
  refine all_lc (lcV (fun d => .bl (isRl L d)) (bit k) (.inl rfl) (by omega) fun d hd => ?_)
  have i0 : op2 fIx (eVar 0) (eD (.int 0)) ((be L rs k).set 2 (some (.s d))) = .ok (.v (.s (.str L))) ((be L rs k).set 2 (some (.s d))) := go2 (r1 := .nm 0) (r2 := .v (I 0)) rfl rfl rfl rfl rfl
  exact goUs (evC i0 (evC (r := .nm 2) rfl ev0)) rfl (fun _ => rfl) (rule_ok (okVs_mem ho hd))
theorem b_keys {ps : List Pr} (hl : ps.length ≤ 1000) (hw : ∀ p ∈ ps, wIn L p.1 = true ∧ p.1.length ≤ 1000) (k : Option O) : eLc (itV (op2 fIx (eVar 0) (eD (.int 1)))) (gNm 2) (MI.ret true) (callU c_key_of [false, false] [op2 fIx (eVar 0) (eD (.int 0)), op2 fIx (eVar 2) (eD (.int 0))]) [2] (be L (encs ps) k) = .ok (.v (.l ((ps.map fun p => keyD L p.1).map .s))) (be L (encs ps) k) := by
  have e : ps.map (fun p => keyD L p.1) = (encs ps).map fun d => match d with
    | .tup (.str x :: _) => keyD L x
    | _ => .non := by rw [encs, List.map_map]; rfl
  rw [e]
  refine lcV _ (bit k) (.inl rfl) (by simpa [encs] using Nat.le_trans hl (by decide)) fun d hd => ?_
  obtain ⟨p, hp, rfl⟩ := List.mem_map.mp hd
  obtain ⟨h1, h2⟩ := hw p hp
  have i0 : op2 fIx (eVar 0) (eD (.int 0)) ((be L (encs ps) k).set 2 (some (.s (enc p)))) = .ok (.v (.s (.str L))) ((be L (encs ps) k).set 2 (some (.s (enc p)))) := go2 (r1 := .nm 0) (r2 := .v (I 0)) rfl rfl rfl rfl rfl
  have i1 : op2 fIx (eVar 2) (eD (.int 0)) ((be L (encs ps) k).set 2 (some (.s (enc p)))) = .ok (.v (.s (.str p.1))) ((be L (encs ps) k).set 2 (some (.s (enc p)))) := go2 (r1 := .nm 2) (r2 := .v (I 0)) rfl rfl rfl rfl rfl
  exact goUs (evC i0 (evC i1 ev0)) rfl (fun _ => rfl) (key_ok (by omega) h1)
theorem atI_nat {α : Type} {xs : List α} {i : Nat} {x : α} (h : xs[i]? = some x) : L2.atI xs (i : Int) = some x := by
  obtain ⟨hl, e⟩ := List.getElem?_eq_some_iff.mp h
  simp [L2.atI, L2.ixN, hl, e]
theorem lenL (ds : List D) : fLen [.l (ds.map .s)] = some (I ds.length) := by simp only [fLen, seqO, lsqO, lstO, allS_map']
theorem ixL {ds : List D} {i : Int} {d : D} (h : L2.atI ds i = some d) : fIx (.l (ds.map .s)) (I i) = some (.s d) := by simp [fIx, lstO, allS_map', h]
theorem b_incr {ls : List (List Nat)} (hl : ls.length ≤ 1000) : callB fAll [eLc (itR1 (op2 fSub (callB fLen [eVar 1]) (eD (.int 1)))) (gNm 3) (MI.ret true) (op2 (bB gLtD) (op2 fIx (eVar 1) (eVar 3)) (op2 fIx (eVar 1) (op2 fAdd (eVar 3) (eD (.int 1))))) [3]] (be L rs (some (.l ((ls.map (keyD L)).map .s)))) = .ok (.v (.s (.bl (incrB L ls)))) (be L rs (some (.l ((ls.map (keyD L)).map .s)))) := by
  have hlen : ((ls.map (keyD L)).length : Int) = ls.length := by simp
  have it1 : itR1 (op2 fSub (callB fLen [eVar 1]) (eD (.int 1))) (be L rs (some (.l ((ls.map (keyD L)).map .s)))) = .ok (rngD 0 ((ls.length : Int) - 1)) (be L rs (some (.l ((ls.map (keyD L)).map .s)))) := by
    refine goR1 (r := .v (I ((ls.length : Int) - 1))) ?_ rfl (by simp only [okR, Bool.and_eq_true, decide_eq_true_eq]; omega)
    exact go2 (r1 := .v (I ls.length)) (r2 := .v (I 1)) (e1 := be L rs (some (.l ((ls.map (keyD L)).map .s)))) (goB1 (r := .nm 1) rfl rfl (by rw [← hlen]; exact lenL _)) rfl rfl rfl rfl
  have e0 : rngD 0 ((ls.length : Int) - 1) = (List.range (ls.length - 1)).map fun i : Nat => D.int i := by
    rw [rng_map]
    have : ((ls.length : Int) - 1 - 0).toNat = ls.length - 1 := by omega
    simp [rngI, this, Function.comp_def]
  rw [e0] at it1
  have e1 : ∀ g : Nat → Bool, ((List.range (ls.length - 1)).map fun i : Nat => D.int i).map (fun d => match d with
    | .int i => D.bl (g i.toNat)
    | _ => .non) = ((List.range (ls.length - 1)).map g).map D.bl := fun g => by rw [List.map_map, List.map_map]; exact List.map_congr_left fun i _ => by simp
  have m := lcV (k := 3) (e := be L rs (some (.l ((ls.map (keyD L)).map .s)))) (elt := op2 (bB gLtD) (op2 fIx (eVar 1) (eVar 3)) (op2 fIx (eVar 1) (op2 fAdd (eVar 3) (eD (.int 1))))) (fun d => match d with
    | .int i => D.bl (aheadB L (ls.getD i.toNat []) (ls.getD (i.toNat + 1) []))
    | _ => .non) it1 (.inl rfl) (by simp; omega) fun d hd => by
      obtain ⟨i, hi, rfl⟩ := List.mem_map.mp hd
      have hi' := List.mem_range.mp hi
      have a1 : (ls.map (keyD L))[i]? = some (keyD L (ls.getD i [])) := by
        rw [List.getElem?_map, List.getElem?_eq_getElem (by omega), List.getD_eq_getElem?_getD, List.getElem?_eq_getElem (by omega)]; rfl
      have a2 : (ls.map (keyD L))[i + 1]? = some (keyD L (ls.getD (i + 1) [])) := by
        rw [List.getElem?_map, List.getElem?_eq_getElem (by omega), List.getD_eq_getElem?_getD, List.getElem?_eq_getElem (by omega)]; rfl
      have b1 := atI_nat a1
      have b2 := atI_nat a2
      have x1 : op2 fIx (eVar 1) (eVar 3) ((be L rs (some (.l ((ls.map (keyD L)).map .s)))).set 3 (some (.s (.int i)))) = .ok (.v (.s (keyD L (ls.getD i [])))) ((be L rs (some (.l ((ls.map (keyD L)).map .s)))).set 3 (some (.s (.int i)))) := go2 (r1 := .nm 1) (r2 := .nm 3) rfl rfl rfl rfl (ixL b1)
      have x2 : op2 fIx (eVar 1) (op2 fAdd (eVar 3) (eD (.int 1))) ((be L rs (some (.l ((ls.map (keyD L)).map .s)))).set 3 (some (.s (.int i)))) = .ok (.v (.s (keyD L (ls.getD (i + 1) [])))) ((be L rs (some (.l ((ls.map (keyD L)).map .s)))).set 3 (some (.s (.int i)))) := go2 (r1 := .nm 1) (r2 := .v (I ((i : Int) + 1))) rfl (go2 (r1 := .nm 3) (r2 := .v (I 1)) rfl rfl rfl rfl rfl) rfl rfl (by
        have : ((i : Int) + 1) = ((i + 1 : Nat) : Int) := by omega
        rw [this]; exact ixL b2)
      exact go2 x1 x2 rfl rfl (by simp only [bB, frz, opnd, ahead_lt, Int.toNat_natCast])
  rw [e1 (fun i => aheadB L (ls.getD i []) (ls.getD (i + 1) []))] at m
  have := allL_lc m
  rw [List.all_map] at this
  exact this
end
theorem isB_ok {d : D} (h : okV d = true) : Ans (c_is_book [.s d]) (.s (.bl (isB d))) := by
  have t1 : tst (callU c_is_long [false, false] [eVar 0, eD (.int 2)]) [some (.s d), none, none, none] = .ok (isT2 d) [some (.s d), none, none, none] := goTst (goUs (evC (r := .nm 0) rfl (evC (r := .v (I 2)) rfl ev0)) rfl (fun _ => rfl) (long_ok h)) rfl rfl
  cases h2 : isT2 d with
  | false =>
    rw [h2] at t1
    have e : isB d = false := by
      unfold isB
      split
      · simp [isT2] at h2
      · rfl
    rw [e]
    exact ans (goR (goT (goOrT (goNot t1)) (goV rfl)))
  | true =>
    rw [h2] at t1
    obtain ⟨a, b, rfl⟩ := isT2_of h2
    have oa : okV a = true := okVs_mem (ds := [a, b]) (by simp only [okV, Bool.and_eq_true] at h; exact h.2) (by simp)
    have ob : okV b = true := okVs_mem (ds := [a, b]) (by simp only [okV, Bool.and_eq_true] at h; exact h.2) (by simp)
    have i0 : op2 fIx (eVar 0) (eD (.int 0)) [some (.s (.tup [a, b])), none, none, none] = .ok (.v (.s a)) [some (.s (.tup [a, b])), none, none, none] := go2 (r1 := .nm 0) (r2 := .v (I 0)) rfl rfl rfl rfl rfl
    have i1 : op2 fIx (eVar 0) (eD (.int 1)) [some (.s (.tup [a, b])), none, none, none] = .ok (.v (.s b)) [some (.s (.tup [a, b])), none, none, none] := go2 (r1 := .nm 0) (r2 := .v (I 1)) rfl rfl rfl rfl rfl
    have t2 : tst (callU c_is_letters [false] [op2 fIx (eVar 0) (eD (.int 0))]) [some (.s (.tup [a, b])), none, none, none] = .ok (isL a) [some (.s (.tup [a, b])), none, none, none] := goTst (goUs (evC i0 ev0) rfl (fun _ => rfl) (isL_ok oa)) rfl rfl
    cases l1 : isL a with
    | false =>
      rw [l1] at t2
      have e : isB (.tup [a, b]) = false := by
        cases a with
        | str x => cases b <;> simp [isB, l1]
        | _ => cases b <;> rfl
      rw [e]
      exact ans (goR (goT (goOr (goNot t1) (goOrT (goNot t2))) (goV rfl)))
    | true =>
      rw [l1] at t2
      cases a with
      | str L =>
        cases b with
        | tup rs =>
          have t3 : tst (callB fIsi [op2 fIx (eVar 0) (eD (.int 1)), eD (.ty "tuple")]) [some (.s (.tup [.str L, .tup rs])), none, none, none] = .ok true [some (.s (.tup [.str L, .tup rs])), none, none, none] := goTst (goB (evC i1 (evC (r := .v (.s (.ty "tuple"))) rfl ev0)) rfl rfl) rfl rfl
          have g1 : sIf (bOr (bNot (tst (callU c_is_long [false, false] [eVar 0, eD (.int 2)]))) (bOr (bNot (tst (callU c_is_letters [false] [op2 fIx (eVar 0) (eD (.int 0))]))) (bNot (tst (callB fIsi [op2 fIx (eVar 0) (eD (.int 1)), eD (.ty "tuple")]))))) (sRet (eD (.bl false))) (MI.ret .nx) (be L rs none) = .ok .nx (be L rs none) := goE (goOr (goNot t1) (goOr (goNot t2) (goNot t3))) rfl
          simp only [okV, Bool.and_eq_true, decide_eq_true_eq] at ob
          have g2 := b_all (L := L) (rs := rs) ob.1 ob.2 none
          cases l2 : rs.all (isRl L) with
          | false =>
            rw [l2] at g2
            have e : isB (.tup [.str L, .tup rs]) = false := by simp [isB, l2]
            rw [e]
            exact ans (go g1 (goR (goT (goNot (goTst g2 rfl rfl)) (goV rfl))))
          | true =>
            rw [l2] at g2
            obtain ⟨ps, rfl, hp⟩ := rules_of l2
            have hpl : ps.length ≤ 1000 := by simpa [encs] using ob.1
            have e : isB (.tup [.str L, .tup (encs ps)]) = incrB L (ps.map (·.1)) := by simp only [isB, l1, l2, Bool.true_and, lefts_encs]
            have g3 := b_keys (L := L) (ps := ps) hpl (fun p hpm => ⟨(hp p hpm).1, by
              have := okVs_mem ob.2 (List.mem_map.mpr ⟨p, hpm, rfl⟩ : enc p ∈ encs ps)
              simp only [enc, okV, okVs, Bool.and_eq_true, decide_eq_true_eq] at this
              omega⟩) none
            have g4 := b_incr (L := L) (rs := encs ps) (ls := ps.map (·.1)) (by simpa using hpl)
            have em : (ps.map (·.1)).map (keyD L) = ps.map fun p => keyD L p.1 := by rw [List.map_map]; rfl
            rw [em] at g4
            rw [e]
            have s4 : sAsg 1 (eLc (itV (op2 fIx (eVar 0) (eD (.int 1)))) (gNm 2) (MI.ret true) (callU c_key_of [false, false] [op2 fIx (eVar 0) (eD (.int 0)), op2 fIx (eVar 2) (eD (.int 0))]) [2]) (be L (encs ps) none) = .ok .nx (be L (encs ps) (some (.l ((ps.map fun p => keyD L p.1).map .s)))) := goA (i := 1) g3
            exact ans (go g1 (go (goE (goNot (goTst g2 rfl rfl)) rfl) (go s4 (goV g4))))
        | _ =>
          first
          | exact absurd (show false = true from ob) (by decide)
          | have t3 : tst (callB fIsi [op2 fIx (eVar 0) (eD (.int 1)), eD (.ty "tuple")]) [some (.s (.tup [.str L, _])), none, none, none] = .ok false [some (.s (.tup [.str L, _])), none, none, none] := goTst (o := .s (.bl false)) (goB (os := [.s _, .s (.ty "tuple")]) (evC i1 (evC (m := eD (.ty "tuple")) (r := .v (.s (.ty "tuple"))) rfl ev0)) rfl rfl) rfl rfl
            exact ans (goR (goT (goOr (goNot t1) (goOr (goNot t2) (goNot t3))) (goV rfl)))
      | _ => cases l1
end K02
namespace K02
open MI
/-! the order of words -/
theorem li_irr : ∀ xs, ltInts xs xs = false
  | [] => rfl
  | x :: xs => by simp only [ltInts, if_true]; exact li_irr xs
theorem li_asym : ∀ xs ys, ltInts xs ys = true → ltInts ys xs = false
  | [], [], h => by cases h
  | [], y :: ys, _ => rfl
  | x :: xs, [], h => by cases h
  | x :: xs, y :: ys, h => by
    simp only [ltInts] at h ⊢
    by_cases e : x = y
    · rw [if_pos e] at h; rw [if_pos e.symm]; exact li_asym xs ys h
    · rw [if_neg e] at h; rw [if_neg (Ne.symm e)]
      simp only [decide_eq_true_eq] at h
      simp only [decide_eq_false_iff_not]; omega
theorem li_tr : ∀ xs ys zs, ltInts xs ys = true → ltInts ys zs = true → ltInts xs zs = true
  | [], ys, [], h1, h2 => by cases ys <;> cases h2 <;> cases h1
  | [], ys, z :: zs, _, _ => rfl
  | x :: xs, [], zs, h, _ => by cases h
  | x :: xs, y :: ys, [], _, h => by cases h
  | x :: xs, y :: ys, z :: zs, h1, h2 => by
    simp only [ltInts] at h1 h2 ⊢
    by_cases e1 : x = y
    · subst e1
      rw [if_pos rfl] at h1
      by_cases e2 : x = z
      · rw [if_pos e2] at h2 ⊢; exact li_tr xs ys zs h1 h2
      · rw [if_neg e2] at h2 ⊢; exact h2
    · rw [if_neg e1] at h1
      simp only [decide_eq_true_eq] at h1
      by_cases e2 : y = z
      · subst e2; rw [if_neg e1]; simpa using h1
      · rw [if_neg e2] at h2
        simp only [decide_eq_true_eq] at h2
        rw [if_neg (by omega)]; simp only [decide_eq_true_eq]; omega
theorem li_tot : ∀ xs ys, ltInts xs ys = false → ltInts ys xs = false → xs = ys
  | [], [], _, _ => rfl
  | [], y :: ys, h, _ => by cases h
  | x :: xs, [], _, h => by cases h
  | x :: xs, y :: ys, h1, h2 => by
    simp only [ltInts] at h1 h2
    by_cases e : x = y
    · subst e
      rw [if_pos rfl] at h1 h2
      rw [li_tot xs ys h1 h2]
    · rw [if_neg e] at h1; rw [if_neg (Ne.symm e)] at h2
      simp only [decide_eq_false_iff_not] at h1 h2; omega
def klt (L a b : List Nat) : Bool := if a.length = b.length then ltInts (idxs L a) (idxs L b) else decide (a.length < b.length)
section
variable {L a b c : List Nat}
theorem shaped_key (w : List Nat) : PySem.SeqAt.shaped (.tuple [.int w.length, .list ((idxs L w).map .int)]) = true := by
  obtain ⟨h1, h2⟩ := can_ints (idxs L w)
  simp [PySem.SeqAt.shaped, PySem.PyData.canLay0, PySem.PyData.canLayAll0, PySem.PyData.depth, PySem.PyData.depthAll, h1, h2]
theorem eqv_ints : ∀ xs ys : List Int, PySem.PyData.eqvAll (xs.map .int) (ys.map .int) = decide (xs = ys)
  | [], [] => rfl
  | [], y :: ys => rfl
  | x :: xs, [] => rfl
  | x :: xs, y :: ys => by
    simp only [List.map_cons, PySem.PyData.eqvAll, PySem.PyData.eqv, eqv_ints xs ys]
    by_cases h : x = y <;> by_cases h2 : xs = ys <;> simp [h, h2]
theorem ahead_eq : aheadB L a b = klt L a b := by
  have : gLtD (.s (keyD L a)) (.s (keyD L b)) = some (klt L a b) := by
    simp only [gLtD, frz, toP_key, shaped_key, Bool.and_self, if_true, ltP, ltPs, ltPs_ints, PySem.PyData.eqv, eqv_ints, klt]
    by_cases h : (a.length : Int) = b.length
    · have h' : a.length = b.length := by omega
      have hb : ((a.length : Int) == (b.length : Int)) = true := by simpa using h
      simp only [hb, if_true, if_pos h']
      by_cases h2 : idxs L a = idxs L b
      · rw [h2, li_irr]; simp
      · simp [h2]
    · have h' : ¬ a.length = b.length := by omega
      have hb : ((a.length : Int) == (b.length : Int)) = false := by simpa using h
      simp only [hb, Bool.false_eq_true, if_false, if_neg h']
      by_cases h2 : idxs L a = idxs L b <;> simp [h2]
  rw [ahead_lt] at this
  exact Option.some.inj this
theorem a_irr : aheadB L a a = false := by rw [ahead_eq, klt, if_pos rfl, li_irr]
theorem a_asym (h : aheadB L a b = true) : aheadB L b a = false := by
  rw [ahead_eq, klt] at h ⊢
  by_cases e : a.length = b.length
  · rw [if_pos e] at h; rw [if_pos e.symm]; exact li_asym _ _ h
  · rw [if_neg e] at h; rw [if_neg (Ne.symm e)]
    simp only [decide_eq_true_eq] at h
    simp only [decide_eq_false_iff_not]; omega
theorem a_tr (h1 : aheadB L a b = true) (h2 : aheadB L b c = true) : aheadB L a c = true := by
  rw [ahead_eq, klt] at h1 h2 ⊢
  by_cases e1 : a.length = b.length
  · rw [if_pos e1] at h1
    by_cases e2 : b.length = c.length
    · rw [if_pos e2] at h2; rw [if_pos (e1.trans e2)]; exact li_tr _ _ _ h1 h2
    · rw [if_neg e2] at h2; rw [if_neg (by omega)]
      simp only [decide_eq_true_eq] at h2 ⊢; omega
  · rw [if_neg e1] at h1
    simp only [decide_eq_true_eq] at h1
    by_cases e2 : b.length = c.length
    · rw [if_neg (by omega)]; simp only [decide_eq_true_eq]; omega
    · rw [if_neg e2] at h2
      simp only [decide_eq_true_eq] at h2
      rw [if_neg (by omega)]; simp only [decide_eq_true_eq]; omega
theorem idx_inj (wa : wIn L a = true) (wb : wIn L b = true) (h : idxs L a = idxs L b) : a = b := by
  induction a generalizing b with
  | nil => cases b with
    | nil => rfl
    | cons d b => cases h
  | cons c a ih => cases b with
    | nil => cases h
    | cons d b =>
      simp only [idxs, List.map_cons, List.cons.injEq] at h
      simp only [wIn, List.all_cons, Bool.and_eq_true, decide_eq_true_eq] at wa wb
      have e : L.idxOf c = L.idxOf d := by omega
      have h1 : L[L.idxOf c]'(List.idxOf_lt_length_of_mem wa.1) = c := List.getElem_idxOf _
      have h2 : L[L.idxOf d]'(List.idxOf_lt_length_of_mem wb.1) = d := List.getElem_idxOf _
      have e2 : c = d := by rw [← h1, ← h2]; simp only [e]
      rw [e2, ih wa.2 wb.2 h.2]
theorem a_tot (wa : wIn L a = true) (wb : wIn L b = true) (h1 : aheadB L a b = false) (h2 : aheadB L b a = false) : a = b := by
  rw [ahead_eq, klt] at h1 h2
  by_cases e : a.length = b.length
  · rw [if_pos e] at h1; rw [if_pos e.symm] at h2
    exact idx_inj wa wb (li_tot _ _ h1 h2)
  · rw [if_neg e] at h1; rw [if_neg (Ne.symm e)] at h2
    simp only [decide_eq_false_iff_not] at h1 h2; omega
theorem a_or (wa : wIn L a = true) (wb : wIn L b = true) (ne : a ≠ b) : aheadB L a b = false → aheadB L b a = true := fun h => by
  cases q : aheadB L b a with
  | true => rfl
  | false => exact absurd (a_tot wa wb h q) ne
/-- by their lefts, each ahead of the next -/
def Inc (L : List Nat) (ps : List Pr) : Prop := ps.Pairwise fun p q => aheadB L p.1 q.1 = true
theorem inc_uniq {ps qs : List Pr} (pm : ps.Perm qs) (h1 : Inc L ps) (h2 : Inc L qs) : ps = qs := by
  refine List.Perm.eq_of_pairwise (le := fun p q : Pr => aheadB L p.1 q.1 = true) (fun p q _ _ l1 l2 => ?_) h1 h2 pm
  rw [a_asym l1] at l2; cases l2
theorem inc_incr {ps : List Pr} (h : Inc L ps) : incrB L (ps.map (·.1)) = true := by
  simp only [incrB, List.all_eq_true, List.mem_range, List.length_map]
  intro i hi
  have h1 : i < ps.length := by omega
  have h2 : i + 1 < ps.length := by omega
  have := List.pairwise_iff_getElem.mp h i (i + 1) h1 h2 (by omega)
  rw [List.getD_eq_getElem?_getD, List.getD_eq_getElem?_getD, List.getElem?_eq_getElem (by simpa using h1), List.getElem?_eq_getElem (by simpa using h2)]
  simpa using this
theorem not_incr {ls : List (List Nat)} {i : Nat} (hi : i + 1 < ls.length) (h : aheadB L (ls.getD i []) (ls.getD (i + 1) []) = false) : incrB L ls = false := by
  rw [incrB, List.all_eq_false]
  exact ⟨i, List.mem_range.mpr (by omega), by rw [h]; simp⟩
/-! put in its place -/
theorem place {ps : List Pr} {r : Pr} (h : Inc L ps) (hr : ∀ p ∈ ps, aheadB L p.1 r.1 = true ∨ aheadB L r.1 p.1 = true) :
    Inc L (ps.take (ps.filter fun p => aheadB L p.1 r.1).length ++ r :: ps.drop (ps.filter fun p => aheadB L p.1 r.1).length) := by
  induction ps with
  | nil => exact List.pairwise_singleton _ _
  | cons p ps ih =>
    obtain ⟨h1, h2⟩ := List.pairwise_cons.mp h
    rcases hr p List.mem_cons_self with z | z
    · rw [List.filter_cons_of_pos (p := fun p : Pr => aheadB L p.1 r.1) (a := p) z, List.length_cons, List.take_succ_cons, List.drop_succ_cons, List.cons_append]
      refine List.pairwise_cons.mpr ⟨fun q hq => ?_, ih h2 fun q hq => hr q (List.mem_cons_of_mem _ hq)⟩
      rcases List.mem_append.mp hq with y | y
      · exact h1 q (List.mem_of_mem_take y)
      · rcases List.mem_cons.mp y with rfl | y
        · exact z
        · exact h1 q (List.mem_of_mem_drop y)
    · have none : (p :: ps).filter (fun p => aheadB L p.1 r.1) = [] := by
        rw [List.filter_eq_nil_iff]
        intro q hq
        rcases List.mem_cons.mp hq with rfl | hq
        · rw [a_asym z]; simp
        · rw [a_asym (a_tr z (h1 q hq))]; simp
      rw [none]
      refine List.pairwise_cons.mpr ⟨fun q hq => ?_, h⟩
      rcases List.mem_cons.mp hq with rfl | hq
      · exact z
      · exact a_tr z (h1 q hq)
end
end K02
namespace K02
open MI
/-! laid in order -/
/-- words of these letters, not long -/
structure Wd (L : List Nat) (w : List Nat) : Prop where
  inn : wIn L w = true
  ok : okS w = true
  ln : w.length ≤ 100
def Wp (L : List Nat) (p : Pr) : Prop := Wd L p.1 ∧ Wd L p.2
theorem nd_idx {α : Type} {l : List α} (nd : l.Nodup) {i j : Nat} {hi : i < l.length} {hj : j < l.length} (e : l[i] = l[j]) : i = j := by
  refine (List.getElem?_inj hi nd).mp ?_
  rw [List.getElem?_eq_getElem hi, List.getElem?_eq_getElem hj, e]
section
variable {L : List Nat}
theorem eq_lefts {ps : List Pr} (nd : (ps.map (·.1)).Nodup) {p q : Pr} (hp : p ∈ ps) (hq : q ∈ ps) (e : p.1 = q.1) : p = q := by
  obtain ⟨i, hi, rfl⟩ := List.getElem_of_mem hp
  obtain ⟨j, hj, rfl⟩ := List.getElem_of_mem hq
  have : i = j := by
    have h1 : (ps.map (·.1))[i]'(by simpa using hi) = (ps.map (·.1))[j]'(by simpa using hj) := by simpa using e
    exact nd_idx nd h1
  subst this; rfl
theorem l_ahead {e : Env} {p q : Pr} {i j : Nat} (h0 : (e[0]?).join = some (.s (.str L))) (hi : (e[i]?).join = some (.s (enc p))) (hj : (e[j]?).join = some (.s (enc q))) (wp : Wp L p) (wq : Wp L q) :
    tst (callU c_law_ahead [false, false, false] [eVar 0, op2 fIx (eVar i) (eD (.int 0)), op2 fIx (eVar j) (eD (.int 0))]) e = .ok (aheadB L p.1 q.1) e := by
  have x1 : op2 fIx (eVar i) (eD (.int 0)) e = .ok (.v (.s (.str p.1))) e := go2 (r1 := .nm i) (r2 := .v (I 0)) (e1 := e) (by simp [eVar, hi]) rfl (by simp only [look, opnd]; exact hi) rfl rfl
  have x2 : op2 fIx (eVar j) (eD (.int 0)) e = .ok (.v (.s (.str q.1))) e := go2 (r1 := .nm j) (r2 := .v (I 0)) (e1 := e) (by simp [eVar, hj]) rfl (by simp only [look, opnd]; exact hj) rfl rfl
  have k := law_ahead_ok (L := L) (a := p.1) (b := q.1) (by have := wp.1.ln; omega) (by have := wq.1.ln; omega) wp.1.inn wq.1.inn
  refine goTst (goUs (rs := [.nm 0, .v (.s (.str p.1)), .v (.s (.str q.1))]) (os := [.s (.str L), .s (.str p.1), .s (.str q.1)]) (e2 := e) (evC (r := .nm 0) (by simp [eVar, h0]) (evC x1 (evC x2 ev0))) ?_ (fun _ => rfl) k) rfl rfl
  have hs := set_same (e := e) (k := 0) h0
  simp [prep, bd, gv, h0, frz, hs, MI.ret]
def oB : SM := sseq (sAsg 4 (callB fLen [eLc (itV (eVar 2)) (gNm 5) (tst (callU c_law_ahead [false, false, false] [eVar 0, op2 fIx (eVar 5) (eD (.int 0)), op2 fIx (eVar 3) (eD (.int 0))])) (eVar 5) [5]]))
  (sAsg 2 (op2 fAdd (op2 fAdd (eSl fSl (eVar 2) pNo (pSo (eVar 4))) (eLst [eVar 3])) (eSl fSl (eVar 2) (pSo (eVar 4)) pNo)))
def oe (L : List Nat) (R : D) (f : O) (x3 x4 : Option O) : Env := [some (.s (.str L)), some (.s R), some f, x3, x4, none]
theorem addL {xs ys : List D} (h : xs.length + ys.length ≤ 16777216) : fAdd (.l (xs.map .s)) (.l (ys.map .s)) = some (.l ((xs ++ ys).map .s)) := by
  simp only [fAdd, orF, fAddI, fAddS, fCat, lstO, allS_map', if_pos h]
theorem ob_ok {R : D} {qs : List Pr} {r : Pr} (hq : ∀ q ∈ qs, Wp L q) (hr : Wp L r) (hl : qs.length ≤ 1000) (x4 : Option O) :
    ∃ y4, oB (oe L R (.l ((encs qs).map .s)) (some (.s (enc r))) x4) = .ok .nx (oe L R (.l ((encs (qs.take (qs.filter fun p => aheadB L p.1 r.1).length ++ r :: qs.drop (qs.filter fun p => aheadB L p.1 r.1).length)).map .s)) (some (.s (enc r))) y4) := by
  generalize hn : (qs.filter fun p => aheadB L p.1 r.1).length = n
  have c1 := lcF (k := 5) (e := oe L R (.l ((encs qs).map .s)) (some (.s (enc r))) x4) (e1 := oe L R (.s (.lst (encs qs))) (some (.s (enc r))) x4) (it := itV (eVar 2)) (ds := encs qs) (cond := tst (callU c_law_ahead [false, false, false] [eVar 0, op2 fIx (eVar 5) (eD (.int 0)), op2 fIx (eVar 3) (eD (.int 0))])) (elt := eVar 5) (fun d => match d with
    | .tup [.str a, .str b] => aheadB L a r.1
    | _ => false) (fun d => d) (goIt (r := .nm 2) (d := .lst (encs qs)) rfl (by simp [gv, oe, frz_l]) rfl) (.inl rfl) (by simp [encs]; omega) fun d hd => by
      obtain ⟨q, hq', rfl⟩ := List.mem_map.mp hd
      exact ⟨l_ahead (i := 5) (j := 3) rfl rfl rfl (hq q hq') hr, fun _ => ⟨.nm 5, rfl, rfl⟩⟩
  have ef : ((encs qs).filter fun d => match d with
    | .tup [.str a, .str b] => aheadB L a r.1
    | _ => false) = encs (qs.filter fun p => aheadB L p.1 r.1) := by
    rw [encs, List.filter_map]; rfl
  rw [ef, List.map_id'] at c1
  have l1 : callB fLen [eLc (itV (eVar 2)) (gNm 5) (tst (callU c_law_ahead [false, false, false] [eVar 0, op2 fIx (eVar 5) (eD (.int 0)), op2 fIx (eVar 3) (eD (.int 0))])) (eVar 5) [5]] (oe L R (.l ((encs qs).map .s)) (some (.s (enc r))) x4) = .ok (.v (I n)) (oe L R (.s (.lst (encs qs))) (some (.s (enc r))) x4) := goB1 c1 rfl (by
    show fLen [.s (.lst (frzs ((encs (qs.filter fun p => aheadB L p.1 r.1)).map .s)))] = _
    rw [frzs_map]
    simp [fLen, seqO, lsqO, lstO, encs, hn])
  refine ⟨some (I n), go (goA (i := 4) l1) ?_⟩
  have s1 : eSl fSl (eVar 2) pNo (pSo (eVar 4)) (oe L R (.s (.lst (encs qs))) (some (.s (enc r))) (some (I n))) = .ok (.v (.l ((encs (qs.take n)).map .s))) (oe L R (.s (.lst (encs qs))) (some (.s (enc r))) (some (I n))) := goSl (r := .nm 2) rfl rfl (goSo (r := .nm 4) rfl rfl) rfl (by simp [fSl, lstO, cutL_to, encs, List.map_take])
  have s2 : eSl fSl (eVar 2) (pSo (eVar 4)) pNo (oe L R (.s (.lst (encs qs))) (some (.s (enc r))) (some (I n))) = .ok (.v (.l ((encs (qs.drop n)).map .s))) (oe L R (.s (.lst (encs qs))) (some (.s (enc r))) (some (I n))) := goSl (r := .nm 2) rfl (goSo (r := .nm 4) rfl rfl) rfl rfl (by simp [fSl, lstO, cutL_from, encs, List.map_drop])
  have l2 : eLst [eVar 3] (oe L R (.s (.lst (encs qs))) (some (.s (enc r))) (some (I n))) = .ok (.v (.l ([enc r].map .s))) (oe L R (.s (.lst (encs qs))) (some (.s (enc r))) (some (I n))) := goLst (evC (r := .nm 3) rfl ev0) rfl
  have fz : ∀ ds : List D, look (oe L R (.s (.lst (encs qs))) (some (.s (enc r))) (some (I n))) (opnd (.v (.l (ds.map .s)))) = some (.s (.lst ds)) := fun ds => by simp only [opnd, look, frz_l]
  have ad : ∀ xs ys : List D, xs.length + ys.length ≤ 16777216 → fAdd (.s (.lst xs)) (.l (ys.map .s)) = some (.l ((xs ++ ys).map .s)) := fun xs ys h => by simp only [fAdd, orF, fAddI, fAddS, fCat, lstO, allS_map', if_pos h]
  have a1 := go2 (g := fAdd) s1 l2 (fz _) rfl (ad _ _ (by simp [encs]; omega))
  have a2 := go2 (g := fAdd) a1 s2 (fz _) rfl (ad _ _ (by simp [encs]; omega))
  have ee : encs (qs.take n) ++ [enc r] ++ encs (qs.drop n) = encs (qs.take n ++ r :: qs.drop n) := by simp [encs]
  rw [ee] at a2
  exact goA (i := 2) a2
theorem law_ordered_ok {ps : List Pr} (hw : ∀ p ∈ ps, Wp L p) (nd : (ps.map (·.1)).Nodup) (hl : ps.length ≤ 100) : ∃ qs : List Pr, qs.Perm ps ∧ Inc L qs ∧ Ans (c_law_ordered [.s (.str L), .s (.lst (encs ps))]) (.s (.tup (encs qs))) := by
  obtain ⟨e', he, qs, x3, x4, rfl, p1, i1⟩ := loop_inv (tg := gNm 3) (body := oB) (fun i e => ∃ (qs : List Pr) (x3 x4 : Option O), e = oe L (.lst (encs ps)) (.l ((encs qs).map .s)) x3 x4 ∧ qs.Perm (ps.take i) ∧ Inc L qs) (encs ps) 0 (oe L (.lst (encs ps)) (.l []) none none) ⟨[], none, none, rfl, by simp, List.Pairwise.nil⟩ fun j d e hj hp => by
    obtain ⟨qs, x3, x4, rfl, p1, i1⟩ := hp
    rw [Nat.zero_add] at p1 ⊢
    rw [encs, List.getElem?_map, Option.map_eq_some_iff] at hj
    obtain ⟨r, hr, rfl⟩ := hj
    have rm : r ∈ ps := List.mem_of_getElem? hr
    have sub : ∀ q ∈ qs, q ∈ ps.take j := fun q hq => p1.mem_iff.mp hq
    have hq : ∀ q ∈ qs, Wp L q := fun q hq => hw q (List.mem_of_mem_take (sub q hq))
    obtain ⟨y4, hb⟩ := ob_ok (R := .lst (encs ps)) hq (hw r rm) (by rw [p1.length_eq, List.length_take]; omega) x4
    refine ⟨_, _, rfl, hb, _, _, _, rfl, ?_, ?_⟩
    · have e1 : ps.take (j + 1) = ps.take j ++ [r] := MiS.take_snoc hr
      rw [e1]
      refine (MiS.ins_perm qs _ r).trans ?_
      exact (List.Perm.cons r p1).trans (List.perm_append_singleton r _).symm
    · refine place i1 fun q hq' => ?_
      have hne : q.1 ≠ r.1 := fun e => by
        have hqr := eq_lefts nd (List.mem_of_mem_take (sub q hq')) rm e
        subst hqr
        have ndp : ps.Nodup := List.Pairwise.of_map (·.1) (fun _ _ h e => h (congrArg _ e)) nd
        have hs := sub q hq'
        obtain ⟨i, hi, ei⟩ := List.getElem_of_mem hs
        rw [List.getElem_take] at ei
        rw [List.length_take] at hi
        obtain ⟨hj2, ej⟩ := List.getElem?_eq_some_iff.mp hr
        have : i = j := nd_idx ndp (ei.trans ej.symm)
        omega
      cases z : aheadB L q.1 r.1 with
      | true => exact .inl rfl
      | false => exact .inr (a_or (hq q hq').1.inn (hw r rm).1.inn hne z)
  have el : 0 + (encs ps).length = ps.length := by simp [encs]
  rw [el, List.take_length] at p1
  refine ⟨qs, p1, i1, ?_⟩
  have g1 : sAsg 2 (eLst []) [some (.s (.str L)), some (.s (.lst (encs ps))), none, none, none, none] = .ok .nx (oe L (.lst (encs ps)) (.l []) none none) := rfl
  have g2 : sFor (itV (eVar 1)) (gNm 3) oB (oe L (.lst (encs ps)) (.l []) none none) = .ok .nx (oe L (.lst (encs ps)) (.l ((encs qs).map .s)) x3 x4) := goF (goIt (r := .nm 1) (d := .lst (encs ps)) rfl rfl rfl) he
  exact ans (go g1 (go g2 (goV (goB1 (r := .nm 2) rfl rfl (by simp only [fTuple, lsqO, lstO, allS_map'])))))
end
end K02
namespace K02
open MI PySem.W
section
variable {L : List Nat}
def turn (L : List Nat) (p : Pr) : Pr := if aheadB L p.1 p.2 then (p.2, p.1) else p
theorem turned_ok {a b : List Nat} (wa : Wd L a) (wb : Wd L b) : Ans (c_turned_rule [.s (.str L), .s (.str a), .s (.str b)]) (.s (enc (turn L (a, b)))) := by
  have t : tst (callU c_is_ahead [false, false, false] [eVar 0, eVar 1, eVar 2]) [some (.s (.str L)), some (.s (.str a)), some (.s (.str b))] = .ok (aheadB L a b) [some (.s (.str L)), some (.s (.str a)), some (.s (.str b))] := goTst (o := .s (.bl (aheadB L a b))) (goUs (e := [some (.s (.str L)), some (.s (.str a)), some (.s (.str b))]) (evC (r := .nm 0) rfl (evC (r := .nm 1) rfl (evC (r := .nm 2) rfl ev0))) rfl (fun _ => rfl) (is_ahead_ok (L := L) (by have := wa.ln; omega) (by have := wb.ln; omega) wa.inn wb.inn)) rfl rfl
  cases h : aheadB L a b with
  | true =>
    rw [h] at t
    rw [show turn L (a, b) = (b, a) by simp [turn, h]]
    exact ans (goV (goIfT t rfl))
  | false =>
    rw [h] at t
    rw [show turn L (a, b) = (a, b) by simp [turn, h]]
    exact ans (goV (goIfE t rfl))
/-! what is sorted -/
def kF (L : List Nat) (p : Pr) : D := .tup [keyD L p.1, enc p]
def pk (L : List Nat) (w : List Nat) : PySem.PyData := .tuple [.int w.length, .list ((idxs L w).map .int)]
def pe (p : Pr) : PySem.PyData := .tuple [.str ⟨p.1.toArray⟩, .str ⟨p.2.toArray⟩]
theorem toP_kF (p : Pr) : toP (kF L p) = some (.tuple [pk L p.1, pe p]) := by
  simp only [kF, toP, toPs, toP_key, enc, pk, pe]
theorem kP_kF (p : Pr) : kP (kF L p) = .tuple [pk L p.1, pe p] := by simp only [kP, toP_kF, Option.getD_some]
theorem toPs_kF : ∀ ps : List Pr, toPs (ps.map (kF L)) = some (ps.map fun p => .tuple [pk L p.1, pe p])
  | [] => rfl
  | p :: ps => by simp only [List.map_cons, toPs, toP_kF, toPs_kF ps]
theorem alike_pk (a b : List Nat) : alike (pk L a) (pk L b) = true := by
  simp only [pk, alike, alikeAll, alike_ints, Bool.and_self]
theorem alike_pe (p q : Pr) : alike (pe p) (pe q) = true := by
  simp only [pe, alike, alikeAll, Bool.and_self]
theorem li_dec : ∀ xs ys : List Int, ltInts xs ys = decide (xs < ys)
  | [], [] => by simp [ltInts]
  | [], y :: ys => by simp [ltInts]
  | x :: xs, [] => by simp [ltInts]
  | x :: xs, y :: ys => by
    simp only [ltInts, li_dec xs ys]
    by_cases h : x = y
    · subst h; simp [List.cons_lt_cons_iff]
    · have : (x :: xs < y :: ys) ↔ x < y := by rw [List.cons_lt_cons_iff]; simp [h]
      simp [h, this]
theorem lt_pk (a b : List Nat) : dataLt (pk L a) (pk L b) = klt L a b := by
  rw [pk, pk, dataLt_pair (by simp [alike]) (by simp only [alike, alike_ints]), dataLt_int, dataLt_list]
  have hi : PyProof.Rows.lexLt PyProof.Rows.itemOrd (keyToksAll ((idxs L a).map .int)) (keyToksAll ((idxs L b).map .int)) = ltInts (idxs L a) (idxs L b) := by
    rw [li_dec]; exact dataLt_ints _ _
  rw [hi]
  simp only [PySem.PyData.eqv, eqv_ints, klt]
  by_cases h : a.length = b.length
  · have h' : (a.length : Int) = b.length := by omega
    simp only [h', beq_self_eq_true, if_true, if_pos h]
    by_cases h2 : idxs L a = idxs L b
    · rw [h2, li_irr]; simp
    · simp [h2]
  · have h' : ¬ (a.length : Int) = b.length := by omega
    have hb : ((a.length : Int) == (b.length : Int)) = false := by simpa using h'
    simp only [hb, Bool.false_eq_true, if_false, if_neg h]
    by_cases h3 : a.length < b.length <;> simp [h3]
theorem eqv_pk {a b : List Nat} (wa : wIn L a = true) (wb : wIn L b = true) (ne : a ≠ b) : PySem.PyData.eqv (pk L a) (pk L b) = false := by
  have h : idxs L a ≠ idxs L b := fun e => ne (idx_inj wa wb e)
  simp [pk, PySem.PyData.eqv, PySem.PyData.eqvAll, eqv_ints, h]
theorem lt_kF {p q : Pr} (wp : Wp L p) (wq : Wp L q) (ne : p.1 ≠ q.1) : dataLt (kP (kF L p)) (kP (kF L q)) = aheadB L p.1 q.1 := by
  rw [kP_kF, kP_kF, dataLt_pair (alike_pk _ _) (alike_pe _ _), eqv_pk wp.1.inn wq.1.inn ne, lt_pk, ahead_eq]; rfl
theorem okSo_kF (ps : List Pr) : okSo (ps.map fun p => PySem.PyData.tuple [pk L p.1, pe p]) = true := by
  simp only [okSo, Bool.and_eq_true, Bool.or_eq_true, List.all_eq_true, List.mem_map]
  refine ⟨fun x hx y hy => ?_, .inl fun x hx => ?_⟩
  · obtain ⟨p, _, rfl⟩ := hx
    obtain ⟨q, _, rfl⟩ := hy
    simp only [alike, alikeAll, alike_pk, alike_pe, Bool.and_self]
  · obtain ⟨p, _, rfl⟩ := hx
    rfl
theorem strOk_of {x : List Nat} (h : okS x = true) : PySem.PyData.strOk ⟨x.toArray⟩ = true := by
  show (x.toArray.all fun c => decide (c < 0x110000)) = true
  unfold okS at h
  simpa using h
theorem can_kF : ∀ ps : List Pr, (∀ p ∈ ps, Wp L p) → PySem.PyData.canLayAll0 (ps.map fun p => PySem.PyData.tuple [pk L p.1, pe p]) = true ∧ PySem.PyData.depthAll (ps.map fun p => PySem.PyData.tuple [pk L p.1, pe p]) ≤ 3
  | [], _ => by simp [PySem.PyData.canLayAll0, PySem.PyData.depthAll]
  | p :: ps, hw => by
    obtain ⟨h1, h2⟩ := can_kF ps fun q hq => hw q (List.mem_cons_of_mem _ hq)
    obtain ⟨w1, w2⟩ := hw p List.mem_cons_self
    have s1 := strOk_of w1.ok
    have s2 := strOk_of w2.ok
    obtain ⟨h3, h4⟩ := can_ints (idxs L p.1)
    refine ⟨?_, ?_⟩
    · simp only [List.map_cons, PySem.PyData.canLayAll0, PySem.PyData.canLay0, pk, pe, h3, s1, s2, Bool.and_self, Bool.true_and]
      exact h1
    · simp only [List.map_cons, PySem.PyData.depthAll, PySem.PyData.depth, pk, pe, h4]
      simp only [pk, pe] at h2
      omega
theorem shaped_kF {ps : List Pr} (hw : ∀ p ∈ ps, Wp L p) : PySem.SeqAt.shaped (.list (ps.map fun p => PySem.PyData.tuple [pk L p.1, pe p])) = true := by
  obtain ⟨h1, h2⟩ := can_kF (L := L) ps hw
  simp only [PySem.SeqAt.shaped, PySem.PyData.canLay0, PySem.PyData.depth, Bool.and_eq_true, decide_eq_true_eq]
  refine ⟨h1, ?_⟩
  exact decide_eq_true (show PySem.PyData.depthAll (ps.map fun p => PySem.PyData.tuple [pk L p.1, pe p]) + 1 ≤ 64 by omega)
theorem sorted_kF {ps : List Pr} (hw : ∀ p ∈ ps, Wp L p) : fSorted [.s (.lst (ps.map (kF L)))] = some (.l (((ps.mergeSort (dataLe false fun p => kP (kF L p))).map (kF L)).map .s)) := by
  have e : sortD (ps.map (kF L)) = (ps.mergeSort (dataLe false fun p => kP (kF L p))).map (kF L) := by
    rw [sortD, sort_maps (r := dataLe false fun p => kP (kF L p)) (s := dataLe false kP) (kF L) (l := ps) fun a _ b _ => rfl]
  simp only [fSorted, lsqO, lstO, toPs_kF, okSo_kF, shaped_kF hw, Bool.and_self, if_true, e]
theorem inc_sort {ps : List Pr} (hw : ∀ p ∈ ps, Wp L p) (nd : (ps.map (·.1)).Nodup) : Inc L (ps.mergeSort (dataLe false fun p => kP (kF L p))) := by
  have pm : (ps.mergeSort (dataLe false fun p => kP (kF L p))).Perm ps := List.mergeSort_perm _ _
  have nd2 : ((ps.mergeSort (dataLe false fun p => kP (kF L p))).map (·.1)).Nodup := (pm.map _).nodup_iff.mpr nd
  have so := sort_pairwise (sortLe_total (PyProof.Rows.listOrd PyProof.Rows.itemOrd) false fun p : Pr => keyToks (kP (kF L p))) ps
  refine List.Pairwise.imp_of_mem (fun {p q} hp hq h => ?_) (List.Pairwise.and so (List.pairwise_map.mp nd2))
  obtain ⟨h1, h2⟩ := h
  have h1' : (!dataLt (kP (kF L q)) (kP (kF L p))) = true := h1
  have wp := hw p (pm.mem_iff.mp hp)
  have wq := hw q (pm.mem_iff.mp hq)
  rw [lt_kF wq wp (Ne.symm h2)] at h1'
  exact a_or wq.1.inn wp.1.inn (Ne.symm h2) (by simpa using h1')
theorem ordered_ok {ps : List Pr} (hw : ∀ p ∈ ps, Wp L p) (nd : (ps.map (·.1)).Nodup) (hl : ps.length ≤ 100) : ∃ qs : List Pr, qs.Perm ps ∧ Inc L qs ∧ Ans (c_ordered [.s (.str L), .s (.lst (encs ps))]) (.s (.tup (encs qs))) := by
  refine ⟨_, List.mergeSort_perm _ _, inc_sort hw nd, ?_⟩
  have c1 := lcV (k := 4) (e := [some (.s (.str L)), some (.s (.lst (encs ps))), none, none, none]) (e1 := [some (.s (.str L)), some (.s (.lst (encs ps))), none, none, none]) (it := itV (eVar 1)) (ds := encs ps) (elt := eTup [callU c_key_of [false, false] [eVar 0, op2 fIx (eVar 4) (eD (.int 0))], eVar 4]) (fun d => match d with
    | .tup [.str a, .str b] => kF L (a, b)
    | _ => .non) (goIt (r := .nm 1) (d := .lst (encs ps)) rfl rfl rfl) (.inl rfl) (by simp [encs]; omega) fun d hd => by
      obtain ⟨p, hp, rfl⟩ := List.mem_map.mp hd
      have k := key_ok (L := L) (w := p.1) (by have := (hw p hp).1.ln; omega) (hw p hp).1.inn
      have i0 : op2 fIx (eVar 4) (eD (.int 0)) [some (.s (.str L)), some (.s (.lst (encs ps))), none, none, some (.s (enc p))] = .ok (.v (.s (.str p.1))) [some (.s (.str L)), some (.s (.lst (encs ps))), none, none, some (.s (enc p))] := go2 (r1 := .nm 4) (r2 := .v (I 0)) rfl rfl rfl rfl rfl
      have u : callU c_key_of [false, false] [eVar 0, op2 fIx (eVar 4) (eD (.int 0))] [some (.s (.str L)), some (.s (.lst (encs ps))), none, none, some (.s (enc p))] = .ok (.v (.s (keyD L p.1))) [some (.s (.str L)), some (.s (.lst (encs ps))), none, none, some (.s (enc p))] := goUs (evC (r := .nm 0) rfl (evC i0 ev0)) rfl (fun _ => rfl) k
      exact goTup (evC u (evC (r := .nm 4) rfl ev0)) rfl
  have e1 : (encs ps).map (fun d => match d with
    | .tup [.str a, .str b] => kF L (a, b)
    | _ => .non) = ps.map (kF L) := by rw [encs, List.map_map]; rfl
  rw [e1] at c1
  have c2 := goB1 (f := fSorted) c1 (by simp only [opnd, look, frz_l]) (sorted_kF (L := L) hw)
  generalize hq : ps.mergeSort (dataLe false fun p => kP (kF L p)) = qs at c2
  have e2 : qs.map (kF L) = (qs.map fun p => (keyD L p.1, enc p)).map fun p => D.tup [p.1, p.2] := by rw [List.map_map]; rfl
  have lq : qs.length ≤ 100 := by rw [← hq, List.length_mergeSort]; exact hl
  have c3 := lcM2 (i := 2) (j := 3) (e1 := [some (.s (.str L)), some (.s (.lst (encs ps))), none, none, none]) (elt := eVar 3) (ds := qs.map fun p => (keyD L p.1, enc p)) (fun p => p.2) (goIt c2 (d := .lst (qs.map (kF L))) (by simp only [gv, frz_l]) (by rw [← e2]; rfl)) (by decide) (.inl rfl) (.inl rfl) (by simp; omega) fun p hp => ⟨.nm 3, rfl, rfl⟩
  have e3 : (qs.map fun p => (keyD L p.1, enc p)).map (fun p => p.2) = encs qs := by rw [List.map_map]; rfl
  rw [e3] at c3
  exact ans (goV (goB1 (o1 := .s (.lst (encs qs))) c3 (by simp only [opnd, look, frz_l]) rfl))
end
end K02
namespace K02
open MI MiS
/-! lists made tuples -/
mutual
def tupd : D → D
  | .tup ds => .tup (tupds ds)
  | .lst ds => .tup (tupds ds)
  | .non => .non
  | .bl b => .bl b
  | .int i => .int i
  | .str x => .str x
  | .scr ds => .scr ds
  | .ty n => .ty n
  | .opq a => .opq a
def tupds : List D → List D
  | [] => []
  | d :: ds => tupd d :: tupds ds
end
mutual
def dp : D → Nat
  | .tup ds => dps ds + 1
  | .lst ds => dps ds + 1
  | _ => 0
def dps : List D → Nat
  | [] => 0
  | d :: ds => max (dp d) (dps ds)
end
theorem tupds_map : ∀ ds, tupds ds = ds.map tupd
  | [] => rfl
  | d :: ds => by rw [tupds, tupds_map ds]; rfl
theorem dps_mem : ∀ {ds : List D} {d : D}, d ∈ ds → dp d ≤ dps ds
  | e :: ds, d, hd => by
    simp only [dps]
    rcases List.mem_cons.mp hd with rfl | z
    · omega
    · have := dps_mem z; omega
theorem dps_le : ∀ {ds : List D} {n : Nat}, (∀ d ∈ ds, dp d ≤ n) → dps ds ≤ n
  | [], n, _ => Nat.zero_le _
  | d :: ds, n, h => by
    simp only [dps]
    have := h d List.mem_cons_self
    have := dps_le fun e he => h e (List.mem_cons_of_mem _ he)
    omega
theorem tup_seq {n : Nat} {d : D} {ds : List D} (hd : d = .tup ds ∨ d = .lst ds) (hl : ds.length ≤ 1000) (ih : ∀ d ∈ ds, Ans (c_tupled n [.s d]) (.s (tupd d))) : Ans (c_tupled (n + 1) [.s d]) (.s (.tup (tupds ds))) := by
  have c1 := lcV (k := 1) (e := [some (.s d), none]) (e1 := [some (.s d), none]) (it := itV (eVar 0)) (ds := ds) (elt := callU (c_tupled n) [false] [eVar 1]) tupd (goIt (r := .nm 0) (d := d) rfl rfl (by rcases hd with rfl | rfl <;> rfl)) (.inl rfl) (by omega) fun x hx => goUs (evC (r := .nm 1) rfl ev0) rfl (fun _ => rfl) (ih x hx)
  have t1 : tst (callB fIsi [eVar 0, eTup [eD (.ty "list"), eD (.ty "tuple")]]) [some (.s d), none] = .ok true [some (.s d), none] := by rcases hd with rfl | rfl <;> rfl
  have c2 := goB1 (f := fTuple) (o := .s (.tup (tupds ds))) (o1 := .s (.lst (ds.map tupd))) c1 (by simp only [opnd, look, frz_l]) (by rw [tupds_map]; rfl)
  exact ans (goV (goIfT t1 c2))
theorem tupled_ok : ∀ (n : Nat) (d : D), okV d = true → dp d < n → Ans (c_tupled n [.s d]) (.s (tupd d))
  | 0, d, _, h => absurd h (Nat.not_lt_zero _)
  | n + 1, d, ho, hd => by
    cases d with
    | tup ds =>
      simp only [okV, Bool.and_eq_true, decide_eq_true_eq] at ho
      simp only [dp] at hd
      exact tup_seq (.inl rfl) ho.1 fun x hx => tupled_ok n x (okVs_mem ho.2 hx) (by have := dps_mem hx; omega)
    | lst ds =>
      simp only [okV, Bool.and_eq_true, decide_eq_true_eq] at ho
      simp only [dp] at hd
      exact tup_seq (.inr rfl) ho.1 fun x hx => tupled_ok n x (okVs_mem ho.2 hx) (by have := dps_mem hx; omega)
    | non => exact ⟨_, rfl⟩
    | bl b => exact ⟨_, rfl⟩
    | int i => exact ⟨_, rfl⟩
    | str x => exact ⟨_, rfl⟩
    | scr ds => cases ho
    | ty ds => cases ho
    | opq ds => cases ho
/-! each once -/
theorem uq_nd {α : Type} [DecidableEq α] (l : List α) : (uq l).length = l.length ↔ l.Nodup := by
  refine snoc_ind (p := fun l => (uq l).length = l.length ↔ l.Nodup) (by simp [uq_nil]) (fun l x ih => ?_) l
  have hl := uq_len l
  rw [uq_snoc]
  by_cases h : x ∈ uq l
  · rw [if_pos h]
    refine ⟨fun e => ?_, fun n => ?_⟩
    · rw [List.length_append] at e; simp at e; omega
    · have := (List.nodup_append.mp n).2.2 x ((uq_mem l x).mp h) x (by simp)
      exact absurd rfl this
  · rw [if_neg h]
    have hx : x ∉ l := fun z => h ((uq_mem l x).mpr z)
    rw [List.length_append, List.length_append]
    refine ⟨fun e => ?_, fun n => ?_⟩
    · have := ih.mp (by simpa using e)
      exact List.nodup_append.mpr ⟨this, by simp, fun a ha b hb ee => by rw [List.mem_singleton] at hb; subst hb; subst ee; exact hx ha⟩
    · have := ih.mpr (List.nodup_append.mp n).1
      simp [this]
def nk (p : Pr) : PySem.NestedKey := .tup [.text ⟨p.1.toArray⟩, .text ⟨p.2.toArray⟩]
theorem nk_inj (p q : Pr) (h : nk p = nk q) : p = q := by
  simp only [nk, PySem.NestedKey.tup.injEq, List.cons.injEq, PySem.NestedKey.text.injEq, PySem.Str.mk.injEq, and_true] at h
  obtain ⟨h1, h2⟩ := h
  refine Prod.ext ?_ ?_
  · simpa using congrArg Array.toList h1
  · simpa using congrArg Array.toList h2
theorem ofK_nk (p : Pr) : ofK (nk p) = enc p := by simp only [nk, ofK, ofKs, enc]
theorem kOfs_encs : ∀ ps : List Pr, kOfs (encs ps) = some (ps.map nk)
  | [] => rfl
  | p :: ps => by
    show (match kOf (enc p), kOfs (encs ps) with
      | some k, some ks => some (k :: ks)
      | _, _ => none) = _
    rw [kOfs_encs ps]; rfl
theorem nk_data (p : Pr) : (nk p).data = pe p := by simp only [nk, PySem.NestedKey.data, PySem.NestedKey.datas, pe]
theorem sortSet_encs {ps : List Pr} (hl : ps.length < 64) : ∃ rs : List Pr, rs.Perm (uq ps) ∧ fSortSet (.l ((encs ps).map .s)) = some (.l ((encs rs).map .s)) := by
  refine ⟨(uq ps).mergeSort (PySem.W.dataLe false fun p => (nk p).data), List.mergeSort_perm _ _, ?_⟩
  have c1 : ((ps.map nk).all fun k => isTupK k && decide (k.depth ≤ 8) && decide (k.data.depth ≤ 64)) = true := by
    rw [List.all_map, List.all_eq_true]
    intro p _
    have h1 : (nk p).depth ≤ 8 := by simp [nk, PySem.NestedKey.depth, PySem.NestedKey.depthAll]
    have h2 : (nk p).data.depth ≤ 64 := by rw [nk_data]; simp [pe, PySem.PyData.depth, PySem.PyData.depthAll]
    show (isTupK (nk p) && decide ((nk p).depth ≤ 8) && decide ((nk p).data.depth ≤ 64)) = true
    rw [decide_eq_true h1, decide_eq_true h2]; rfl
  have c2 : okSo ((ps.map nk).map PySem.NestedKey.data) = true := by
    simp only [okSo, List.map_map, Bool.and_eq_true, Bool.or_eq_true, List.all_eq_true, List.mem_map, Function.comp]
    refine ⟨fun x hx y hy => ?_, .inl fun x hx => ?_⟩
    · obtain ⟨p, _, rfl⟩ := hx
      obtain ⟨q, _, rfl⟩ := hy
      rw [nk_data, nk_data]; exact alike_pe _ _
    · obtain ⟨p, _, rfl⟩ := hx
      rw [nk_data]; rfl
  have e : keysS (ps.map nk) = ((uq ps).mergeSort (PySem.W.dataLe false fun p => (nk p).data)).map nk := by
    rw [keysS, uq_map nk nk_inj, PySem.W.sort_maps (r := PySem.W.dataLe false fun p => (nk p).data) (s := leK) nk (l := uq ps) fun a _ b _ => rfl]
  have hl' : (ps.map nk).length < 64 := by rw [List.length_map]; exact hl
  simp only [fSortSet, lsqO, lstO, allS_map', kOfs_encs, c1, c2, decide_eq_true hl', Bool.and_self, if_true, e]
  rw [List.map_map, encs, List.map_map]
  congr 2
theorem strs_of : ∀ xs : List (List Nat), strsOf (xs.map .str) = some xs
  | [] => rfl
  | x :: xs => by
    show (match strsOf (xs.map .str) with
      | some bs => some (x :: bs)
      | none => none) = _
    rw [strs_of xs]
end K02
namespace K02
open MI MiS
section
variable {L : List Nat}
/-- a book out of pairs: what it comes to -/
def bke (L : List Nat) (d : D) (qs : List Pr) (x4 x5 : Option O) : Env := [some (.s (.str L)), some (.s d), some (.s (.str L)), some (.s (.tup (encs qs))), x4, x5, none, none, none]
theorem turn_or (p : Pr) : turn L p = p ∨ turn L p = (p.2, p.1) := by
  unfold turn
  split
  · exact .inr rfl
  · exact .inl rfl
theorem turn_wp {p : Pr} (h : Wp L p) : Wp L (turn L p) := by
  rcases turn_or (L := L) p with e | e <;> rw [e]
  · exact h
  · exact ⟨h.2, h.1⟩
def bS1 : SM := sTgt (eTup [callU c_sure_letters [false] [eVar 0], callU (c_tupled 8) [false] [eVar 1]]) (gTp [gNm 2, gNm 3])
theorem bs1_ok (g : Gd L) {d : D} {qs : List Pr} (ho : okV d = true) (hd : dp d < 8) (ht : tupd d = .tup (encs qs)) : bS1 [some (.s (.str L)), some (.s d), none, none, none, none, none, none, none] = .ok .nx (bke L d qs none none) := by
  have k1 := sure_letters_ok g
  have k2 := tupled_ok 8 d ho hd
  rw [ht] at k2
  have u1 : callU c_sure_letters [false] [eVar 0] [some (.s (.str L)), some (.s d), none, none, none, none, none, none, none] = .ok (.v (.s (.str L))) [some (.s (.str L)), some (.s d), none, none, none, none, none, none, none] := goUs (evC (r := .nm 0) rfl ev0) rfl (fun _ => rfl) k1
  have u2 : callU (c_tupled 8) [false] [eVar 1] [some (.s (.str L)), some (.s d), none, none, none, none, none, none, none] = .ok (.v (.s (.tup (encs qs)))) [some (.s (.str L)), some (.s d), none, none, none, none, none, none, none] := goUs (evC (r := .nm 1) rfl ev0) rfl (fun _ => rfl) k2
  have t := goTup (evC u1 (evC u2 ev0)) (ds := [.str L, .tup (encs qs)]) rfl
  simp only [bS1, sTgt, bd, t, gv, frz]
  rfl
def bS3 : SM := sFor (itV (eVar 3)) (gNm 4) (sIf (bOr (bNot (tst (callU c_is_long [false, false] [eVar 4, eD (.int 2)]))) (bOr (bNot (tst (callU c_is_word_in [false, false] [eVar 2, op2 fIx (eVar 4) (eD (.int 0))]))) (bOr (bNot (tst (callU c_is_word_in [false, false] [eVar 2, op2 fIx (eVar 4) (eD (.int 1))]))) (tst (op2 (bB gEq) (op2 fIx (eVar 4) (eD (.int 0))) (op2 fIx (eVar 4) (eD (.int 1)))))))) (sRaise 1) (MI.ret .nx))
theorem okV_str {w : List Nat} (h : Wd L w) : okV (.str w) = true := by
  simp only [okV, h.ok, Bool.true_and, decide_eq_true_eq]; have := h.ln; omega
theorem okV_enc {p : Pr} (h : Wp L p) : okV (enc p) = true := by
  simp only [enc, okV, okVs, List.length_cons, List.length_nil, Bool.and_eq_true, decide_eq_true_eq]
  have h1 := okV_str h.1
  have h2 := okV_str h.2
  simp only [okV, Bool.and_eq_true, decide_eq_true_eq] at h1 h2
  exact ⟨by decide, h1, h2, trivial⟩
theorem bs3_ok {d : D} {qs : List Pr} (hw : ∀ q ∈ qs, Wp L q ∧ q.1 ≠ q.2) : ∃ x4, bS3 (bke L d qs none none) = .ok .nx (bke L d qs x4 none) := by
  obtain ⟨e', he, x4, rfl⟩ := loop_inv (tg := gNm 4) (body := sIf (bOr (bNot (tst (callU c_is_long [false, false] [eVar 4, eD (.int 2)]))) (bOr (bNot (tst (callU c_is_word_in [false, false] [eVar 2, op2 fIx (eVar 4) (eD (.int 0))]))) (bOr (bNot (tst (callU c_is_word_in [false, false] [eVar 2, op2 fIx (eVar 4) (eD (.int 1))]))) (tst (op2 (bB gEq) (op2 fIx (eVar 4) (eD (.int 0))) (op2 fIx (eVar 4) (eD (.int 1)))))))) (sRaise 1) (MI.ret .nx)) (fun i e => ∃ x4, e = bke L d qs x4 none) (encs qs) 0 (bke L d qs none none) ⟨none, rfl⟩ fun j x e hj hp => by
    obtain ⟨x4, rfl⟩ := hp
    rw [encs, List.getElem?_map, Option.map_eq_some_iff] at hj
    obtain ⟨q, hq, rfl⟩ := hj
    obtain ⟨wq, ne⟩ := hw q (List.mem_of_getElem? hq)
    refine ⟨bke L d qs (some (.s (enc q))) none, bke L d qs (some (.s (enc q))) none, rfl, ?_, _, rfl⟩
    have i0 : op2 fIx (eVar 4) (eD (.int 0)) (bke L d qs (some (.s (enc q))) none) = .ok (.v (.s (.str q.1))) (bke L d qs (some (.s (enc q))) none) := go2 (r1 := .nm 4) (r2 := .v (I 0)) rfl rfl rfl rfl rfl
    have i1 : op2 fIx (eVar 4) (eD (.int 1)) (bke L d qs (some (.s (enc q))) none) = .ok (.v (.s (.str q.2))) (bke L d qs (some (.s (enc q))) none) := go2 (r1 := .nm 4) (r2 := .v (I 1)) rfl rfl rfl rfl rfl
    have t1 : tst (callU c_is_long [false, false] [eVar 4, eD (.int 2)]) (bke L d qs (some (.s (enc q))) none) = .ok true (bke L d qs (some (.s (enc q))) none) := goTst (goUs (evC (r := .nm 4) rfl (evC (r := .v (I 2)) rfl ev0)) rfl (fun _ => rfl) (long_ok (okV_enc wq))) rfl rfl
    have w1 : isW L (.str q.1) = true := wq.1.inn
    have w2 : isW L (.str q.2) = true := wq.2.inn
    have t2 : tst (callU c_is_word_in [false, false] [eVar 2, op2 fIx (eVar 4) (eD (.int 0))]) (bke L d qs (some (.s (enc q))) none) = .ok (isW L (.str q.1)) (bke L d qs (some (.s (enc q))) none) := goTst (goUs (evC (r := .nm 2) rfl (evC i0 ev0)) rfl (fun _ => rfl) (isW_ok (okV_str wq.1))) rfl rfl
    have t3 : tst (callU c_is_word_in [false, false] [eVar 2, op2 fIx (eVar 4) (eD (.int 1))]) (bke L d qs (some (.s (enc q))) none) = .ok (isW L (.str q.2)) (bke L d qs (some (.s (enc q))) none) := goTst (goUs (evC (r := .nm 2) rfl (evC i1 ev0)) rfl (fun _ => rfl) (isW_ok (okV_str wq.2))) rfl rfl
    rw [w1] at t2
    rw [w2] at t3
    have t4 : tst (op2 (bB gEq) (op2 fIx (eVar 4) (eD (.int 0))) (op2 fIx (eVar 4) (eD (.int 1)))) (bke L d qs (some (.s (enc q))) none) = .ok false (bke L d qs (some (.s (enc q))) none) := goTst (go2 (o := .s (.bl false)) i0 i1 rfl rfl (by simp only [bB, opnd, frz, eqS wq.1.ok wq.2.ok, decide_eq_false ne])) rfl rfl
    exact goE (goOr (goNot t1) (goOr (goNot t2) (goOr (goNot t3) t4))) rfl
  exact ⟨x4, goF (goIt (r := .nm 3) (d := .tup (encs qs)) rfl rfl rfl) he⟩
def bS4 : SM := sAsg 5 (eSortSet (eLc (itV (eVar 3)) (gTp [gNm 6, gNm 7]) (MI.ret true) (callU c_turned_rule [false, false, false] [eVar 2, eVar 6, eVar 7]) [6, 7]))
theorem bs4_ok {d : D} {qs : List Pr} (hw : ∀ q ∈ qs, Wp L q ∧ q.1 ≠ q.2) (hl : qs.length < 64) (x4 : Option O) : ∃ rs : List Pr, rs.Perm (uq (qs.map (turn L))) ∧ bS4 (bke L d qs x4 none) = .ok .nx (bke L d qs x4 (some (.l ((encs rs).map .s)))) := by
  have e2 : encs qs = (qs.map fun p => (D.str p.1, D.str p.2)).map fun p => D.tup [p.1, p.2] := by rw [List.map_map]; rfl
  have c := lcM2 (i := 6) (j := 7) (e := bke L d qs x4 none) (e1 := bke L d qs x4 none) (it := itV (eVar 3)) (elt := callU c_turned_rule [false, false, false] [eVar 2, eVar 6, eVar 7]) (ds := qs.map fun p => (D.str p.1, D.str p.2)) (fun p => match p with
    | (.str a, .str b) => enc (turn L (a, b))
    | _ => .non) (goIt (r := .nm 3) (d := .tup (encs qs)) rfl rfl (by rw [← e2]; rfl)) (by decide) (.inl rfl) (.inl rfl) (by simp; omega) fun p hp => by
      obtain ⟨q, hq, rfl⟩ := List.mem_map.mp hp
      have k := turned_ok (hw q hq).1.1 (hw q hq).1.2
      exact ⟨_, goUs (evC (r := .nm 2) rfl (evC (r := .nm 6) rfl (evC (r := .nm 7) rfl ev0))) rfl (fun _ => rfl) k, rfl⟩
  have e3 : (qs.map fun p => (D.str p.1, D.str p.2)).map (fun p => match p with
    | (.str a, .str b) => enc (turn L (a, b))
    | _ => .non) = encs (qs.map (turn L)) := by rw [List.map_map, encs, List.map_map]; rfl
  rw [e3] at c
  obtain ⟨rs, pm, hs⟩ := sortSet_encs (ps := qs.map (turn L)) (by rw [List.length_map]; exact hl)
  exact ⟨rs, pm, goA (i := 5) (go1 c rfl hs)⟩
def bS5 : SM := sIf (tst (op2 (bB gLtD) (eLenSet (eLc (itV (eVar 5)) (gNm 8) (MI.ret true) (op2 fIx (eVar 8) (eD (.int 0))) [8])) (callB fLen [eVar 5]))) (sRaise 0) (MI.ret .nx)
theorem bs5_ok {d : D} {qs rs : List Pr} (hl : rs.length < 64) (x4 : Option O) : ((rs.map (·.1)).Nodup → bS5 (bke L d qs x4 (some (.l ((encs rs).map .s)))) = .ok .nx (bke L d qs x4 (some (.s (.lst (encs rs)))))) ∧
    (¬ (rs.map (·.1)).Nodup → bS5 (bke L d qs x4 (some (.l ((encs rs).map .s)))) = .ex 0 (bke L d qs x4 (some (.s (.lst (encs rs)))))) := by
  have c := lcV (k := 8) (e := bke L d qs x4 (some (.l ((encs rs).map .s)))) (e1 := bke L d qs x4 (some (.s (.lst (encs rs))))) (it := itV (eVar 5)) (elt := op2 fIx (eVar 8) (eD (.int 0))) (ds := encs rs) (fun d => match d with
    | .tup (a :: _) => a
    | _ => .non) (goIt (r := .nm 5) (d := .lst (encs rs)) rfl (by simp [gv, bke, frz_l]) rfl) (.inl rfl) (by simp [encs]; omega) fun x hx => by
      obtain ⟨q, hq, rfl⟩ := List.mem_map.mp hx
      exact go2 (r1 := .nm 8) (r2 := .v (I 0)) rfl rfl rfl rfl rfl
  have e1 : (encs rs).map (fun d => match d with
    | .tup (a :: _) => a
    | _ => .non) = (rs.map (·.1)).map .str := by rw [encs, List.map_map, List.map_map]; rfl
  rw [e1] at c
  have l1 := lenSetE (ds := (rs.map (·.1)).map .str) (xs := rs.map (·.1)) c rfl (by simp only [lsqO, lstO, allS_map']) (strs_of _) (by rw [List.length_map]; omega)
  have l2 : callB fLen [eVar 5] (bke L d qs x4 (some (.s (.lst (encs rs))))) = .ok (.v (I rs.length)) (bke L d qs x4 (some (.s (.lst (encs rs))))) := goB1 (r := .nm 5) rfl rfl (by simp [fLen, seqO, lsqO, lstO, encs])
  have t := goTst (go2 (g := bB gLtD) (o := .s (.bl (decide (((uq (rs.map (·.1))).length : Int) < rs.length)))) l1 l2 rfl rfl (by simp only [bB, frz, ltI])) rfl rfl
  have hu := uq_nd (rs.map (·.1))
  have hle := uq_len (rs.map (·.1))
  rw [List.length_map] at hu hle
  refine ⟨fun n => ?_, fun n => ?_⟩
  · have : ¬ ((uq (rs.map (·.1))).length : Int) < rs.length := by have := hu.mpr n; omega
    rw [decide_eq_false this] at t
    exact goE t rfl
  · have : ((uq (rs.map (·.1))).length : Int) < rs.length := by
      have : (uq (rs.map (·.1))).length ≠ rs.length := fun z => n (hu.mp z)
      omega
    rw [decide_eq_true this] at t
    exact goT t rfl
theorem book_ok (g : Gd L) {d : D} {qs : List Pr} (ho : okV d = true) (hd : dp d < 8) (ht : tupd d = .tup (encs qs)) (hw : ∀ q ∈ qs, Wp L q ∧ q.1 ≠ q.2) (hl : qs.length < 64) :
    (((uq (qs.map (turn L))).map (·.1)).Nodup → ∃ us : List Pr, us.Perm (uq (qs.map (turn L))) ∧ Inc L us ∧ Ans (c_book_of [.s (.str L), .s d]) (.s (.tup [.str L, .tup (encs us)]))) ∧
    (¬ ((uq (qs.map (turn L))).map (·.1)).Nodup → ∃ u, c_book_of [.s (.str L), .s d] = .ex 0 u) := by
  have s1 := bs1_ok g ho hd ht
  have s2 : sIf (bNot (tst (callB fIsi [eVar 3, eD (.ty "tuple")]))) (sRaise 1) (MI.ret .nx) (bke L d qs none none) = .ok .nx (bke L d qs none none) := rfl
  obtain ⟨x4, s3⟩ := bs3_ok (d := d) hw
  obtain ⟨rs, pm, s4⟩ := bs4_ok (d := d) hw hl x4
  have ul := uq_len (qs.map (turn L))
  rw [List.length_map] at ul
  have rl : rs.length < 64 := by rw [pm.length_eq]; omega
  obtain ⟨y1, y2⟩ := bs5_ok (L := L) (d := d) (qs := qs) rl x4
  refine ⟨fun n => ?_, fun n => ?_⟩
  · have n' : (rs.map (·.1)).Nodup := (pm.map _).nodup_iff.mpr n
    have hwr : ∀ r ∈ rs, Wp L r := fun r hr => by
      have := (uq_mem _ _).mp (pm.mem_iff.mp hr)
      obtain ⟨q, hq, rfl⟩ := List.mem_map.mp this
      exact turn_wp (hw q hq).1
    obtain ⟨us, pu, iu, k⟩ := ordered_ok hwr n' (by omega)
    refine ⟨us, pu.trans pm, iu, ?_⟩
    have u : callU c_ordered [false, false] [eVar 2, eVar 5] (bke L d qs x4 (some (.s (.lst (encs rs))))) = .ok (.v (.s (.tup (encs us)))) (bke L d qs x4 (some (.s (.lst (encs rs))))) := goUs (evC (r := .nm 2) rfl (evC (r := .nm 5) rfl ev0)) rfl (fun _ => rfl) k
    exact ans (n := 9) (body := b_book_of) (go s1 (go s2 (go s3 (go s4 (go (y1 n') (goV (goTup (ds := [.str L, .tup (encs us)]) (evC (r := .nm 2) rfl (evC u ev0)) rfl)))))))
  · have n' : ¬ (rs.map (·.1)).Nodup := fun z => n ((pm.map _).nodup_iff.mp z)
    have k : b_book_of [some (.s (.str L)), some (.s d), none, none, none, none, none, none, none] = .ex 0 (bke L d qs x4 (some (.s (.lst (encs rs))))) := go s1 (go s2 (go s3 (go s4 (goX (y2 n')))))
    exact exs (n := 9) (body := b_book_of) (args := [.s (.str L), .s d]) k
end
end K02
namespace K02
open MI MiS
theorem goNm {m : EM Rs} {e e1 : Env} {i : Nat} {o : O} (h : m e = .ok (.nm i) e1) (hi : (e1[i]?).join = some o) : sRet m e = .ok (.rt (.s (frz o))) (e1.set i (some (.s (frz o)))) := by
  simp [sRet, bd, h, hold, hi, MI.ret]
theorem evX {m : EM Rs} {ms : List (EM Rs)} {e e1 : Env} {k : Nat} (h : m e = .ex k e1) : evs (m :: ms) e = .ex k e1 := by simp only [evs, bd, h]
theorem goUv {cm : List O → CR} {mask : List Bool} {ms : List (EM Rs)} {e e1 : Env} {k : Nat} (h : evs ms e = .ex k e1) : callU cm mask ms e = .ex k e1 := by simp only [callU, bd, h]
theorem goVx {m : EM Rs} {e e1 : Env} {k : Nat} (h : m e = .ex k e1) : sRet m e = .ex k e1 := by simp only [sRet, bd, h]
section
variable {L : List Nat}
def canD : O := .l [.s (.str [99, 97, 110, 110, 111, 116]), .s (.bl true)]
theorem heard_ok {d : D} {b : D} (h : Ans (c_book_of [.s (.str L), .s d]) (.s (.tup [.str L, b]))) : Ans (c_law_heard [.s (.str L), .s d]) (.s (.tup [.str L, b])) := by
  have u1 : callU c_book_of [false, false] [eVar 0, eVar 1] [some (.s (.str L)), some (.s d), none] = .ok (.v (.s (.tup [.str L, b]))) [some (.s (.str L)), some (.s d), none] := goUs (evC (r := .nm 0) rfl (evC (r := .nm 1) rfl ev0)) rfl (fun _ => rfl) h
  have k : Ans (c_law_unmarked [.s (.tup [.str L, b])]) (.s (.tup [.str L, b])) := ⟨_, rfl⟩
  have u2 : callU c_law_unmarked [false] [callU c_book_of [false, false] [eVar 0, eVar 1]] [some (.s (.str L)), some (.s d), none] = .ok (.v (.s (.tup [.str L, b]))) [some (.s (.str L)), some (.s d), none] := goUs (evC u1 ev0) rfl (fun _ => rfl) k
  have hb := goV u2
  refine ans (n := 3) (body := b_law_heard) (args := [.s (.str L), .s d]) (e1 := [some (.s (.str L)), some (.s d), none]) ?_
  show sTry _ _ _ _ _ [some (.s (.str L)), some (.s d), none] = _
  simp only [sTry, hb]
theorem heard_ex {d : D} (h : ∃ u, c_book_of [.s (.str L), .s d] = .ex 0 u) : Ans (c_law_heard [.s (.str L), .s d]) canD := by
  have u1 : callU c_book_of [false, false] [eVar 0, eVar 1] [some (.s (.str L)), some (.s d), none] = .ex 0 [some (.s (.str L)), some (.s d), none] := goUe (evC (r := .nm 0) rfl (evC (r := .nm 1) rfl ev0)) rfl (fun _ => rfl) h
  have hb : sRet (callU c_law_unmarked [false] [callU c_book_of [false, false] [eVar 0, eVar 1]]) [some (.s (.str L)), some (.s d), none] = .ex 0 [some (.s (.str L)), some (.s d), none] := goVx (goUv (evX u1))
  refine ans (n := 3) (body := b_law_heard) (args := [.s (.str L), .s d]) (e1 := [some (.s (.str L)), some (.s d), none]) ?_
  show sTry _ _ _ _ _ [some (.s (.str L)), some (.s d), none] = _
  simp only [sTry, hb]
  rfl
end
/-! mixed: lists and tuples in whatever way -/
mutual
def sz : D → Nat
  | .tup ds => szs ds + 1
  | .lst ds => szs ds + 1
  | _ => 1
def szs : List D → Nat
  | [] => 0
  | d :: ds => sz d + szs ds
end
theorem szs_snoc : ∀ (ds : List D) (d : D), szs (ds ++ [d]) = szs ds + sz d
  | [], d => by simp [szs]
  | e :: ds, d => by simp only [List.cons_append, szs, szs_snoc ds d]; omega
theorem szs_le : ∀ (ds : List D) (k : Nat), szs (ds.take k) ≤ szs ds
  | [], k => by simp [szs]
  | e :: ds, 0 => by simp [szs]
  | e :: ds, k + 1 => by
    have := szs_le ds k
    simp only [List.take_succ_cons, szs]; omega
theorem szs_at {ds : List D} {j : Nat} {d : D} (h : ds[j]? = some d) : szs (ds.take (j + 1)) = szs (ds.take j) + sz d := by rw [take_snoc h, szs_snoc]
theorem tupd_seq {d : D} {ds : List D} (hd : d = .tup ds ∨ d = .lst ds) : tupd d = .tup (tupds ds) ∧ dp d = dps ds + 1 ∧ sz d = szs ds + 1 := by rcases hd with rfl | rfl <;> exact ⟨rfl, rfl, rfl⟩
theorem dps_map : ∀ {xs ds : List D}, xs.map (fun x => (tupd x, dp x)) = ds.map (fun x => (tupd x, dp x)) → tupds xs = tupds ds ∧ dps xs = dps ds
  | [], [], _ => ⟨rfl, rfl⟩
  | [], _ :: _, h => by cases h
  | _ :: _, [], h => by cases h
  | x :: xs, d :: ds, h => by
    simp only [List.map_cons, List.cons.injEq, Prod.mk.injEq] at h
    obtain ⟨h1, h2⟩ := dps_map h.2
    simp only [tupds, dps, h1, h2, h.1.1, h.1.2, and_self]
def Mx (d r : D) : Prop := tupd r = tupd d ∧ okV r = true ∧ dp r = dp d
theorem mix_seq {n : Nat} {d : D} {ds : List D} (hd : d = .tup ds ∨ d = .lst ds) (hl : ds.length ≤ 1000) (ih : ∀ x ∈ ds, ∀ (m : Int) (o : O), Tn m o → m + sz x < 1000000000 → ∃ r o', Mx x (frz r) ∧ Tn (m + sz x) o' ∧ Gives (c_law_mixed n [o, .s x]) r (some o'))
    {m : Int} {o : O} (t : Tn m o) (hm : m + sz d < 1000000000) : ∃ r o', Mx d (frz r) ∧ Tn (m + sz d) o' ∧ Gives (c_law_mixed (n + 1) [o, .s d]) r (some o') := by
  obtain ⟨g1, g2, g3⟩ := tupd_seq hd
  obtain ⟨xs, e', k1, k2, k3, o1, rfl, t1⟩ := lc_invT (tg := gNm 3) (cond := MI.ret true) (elt := callU (c_law_mixed n) [true, false] [eVar 0, eVar 3]) (own := [3]) (fun i e => ∃ o1, e = [some o1, some (.s d), none, none] ∧ Tn (m + szs (ds.take i)) o1) (fun x => (tupd x, dp x)) (fun x => okV x = true) ds 0 [some o, some (.s d), none, none] ⟨o, rfl, by simpa [szs] using t⟩ fun j x e hj hp => by
    obtain ⟨o1, rfl, t1⟩ := hp
    rw [Nat.zero_add] at t1 ⊢
    have hs := szs_at hj
    have hle := szs_le ds (j + 1)
    obtain ⟨r, o2, ⟨q1, q2, q3⟩, t2, e2, q4, q5⟩ := ih x (List.mem_of_getElem? hj) _ _ t1 (by omega)
    refine ⟨[some o1, some (.s d), none, some (.s x)], [some o1, some (.s d), none, some (.s x)], [some o2, some (.s d), none, some (.s x)], .v r, [some o2, some (.s d), none, some (.s x)], frz r, rfl, rfl, ?_, rfl, q2, by rw [q1, q3], o2, rfl, by rw [hs]; exact t2.mono (by omega)⟩
    simp [eSl, pNo, pSo, eRev, bd, MI.ret, eVar, eD, op2, op1, op3, evs, callB, lookAll, look, opnd, frz, frzs, sseq, sAsg, sPar, sIf, sRet, sExpr, hold, tst, truO, truD, vNot, vAnd, vOr, bAnd, bOr, bNot, eIf, bB, gv, gvs, eTup, eLst, lift, callU, callK, callT, evK, pick, prep, insOf, backTo, fnCR, sSetIx, eMut, itV, itR1, itR2, itE, itZ, itemsOf, sFor, q4, q5]
  rw [Nat.zero_add, List.take_length] at t1
  obtain ⟨c1, c2⟩ := dps_map k2
  have hlx : xs.length = ds.length := by have := congrArg List.length k2; simpa using this
  obtain ⟨z, o2, z1, z2, t2, e2, z3, z4⟩ := take_tn t1 (n := 2) (by omega) (by omega) (by omega)
  have s1 : sIf (bNot (tst (callB fIsi [eVar 1, eTup [eD (.ty "list"), eD (.ty "tuple")]]))) (sRet (eVar 1)) (MI.ret .nx) [some o, some (.s d), none, none] = .ok .nx [some o, some (.s d), none, none] := by rcases hd with rfl | rfl <;> rfl
  have s2 := goA (i := 2) (goL (it := itV (eVar 1)) (e := [some o, some (.s d), none, none]) (e1 := [some o, some (.s d), none, none]) (goIt (r := .nm 1) (d := d) rfl rfl (by rcases hd with rfl | rfl <;> rfl)) k1 (by omega))
  have ht : tst (op2 (bB gEq) (callU c_law_take [true, false] [eVar 0, eD (.int 2)]) (eD (.int 0))) [some o1, some (.s d), some (.l (xs.map .s)), none] = .ok (decide (z = 0)) [some o2, some (.s d), some (.l (xs.map .s)), none] := by
    have u : callU c_law_take [true, false] [eVar 0, eD (.int 2)] [some o1, some (.s d), some (.l (xs.map .s)), none] = .ok (.v (I z)) [some o2, some (.s d), some (.l (xs.map .s)), none] := by simp [eSl, pNo, pSo, eRev, bd, MI.ret, eVar, eD, op2, op1, op3, evs, callB, lookAll, look, opnd, frz, frzs, sseq, sAsg, sPar, sIf, sRet, sExpr, hold, tst, truO, truD, vNot, vAnd, vOr, bAnd, bOr, bNot, eIf, bB, gv, gvs, eTup, eLst, lift, callU, callK, callT, evK, pick, prep, insOf, backTo, fnCR, sSetIx, eMut, itV, itR1, itR2, itE, itZ, itemsOf, sFor, z3, z4]
    exact goTst (o := .s (.bl (decide (z = 0)))) (go2 (r2 := .v (I 0)) u rfl rfl rfl (by simp only [bB, opnd, frz, eqI])) rfl rfl
  have fin : Tn (m + sz d) o2 := t2.mono (by omega)
  by_cases hz : z = 0
  · rw [decide_eq_true hz] at ht
    refine ⟨.s (.lst xs), o2, ⟨by rw [g1, frz, tupd, c1], ?_, by rw [g2, frz, dp, c2]⟩, fin, gives (n := 4) (body := b_law_mixed (c_law_mixed n)) (args := [o, .s d]) (go s1 (go s2 ?_)) (e1 := [some o2, some (.s d), some (.s (.lst xs)), none]) rfl⟩
    · simp only [frz, okV, Bool.and_eq_true, decide_eq_true_eq]; exact ⟨by omega, okVs_of k3⟩
    · have := goNm (goIfT (a := eVar 2) (b := callB fTuple [eVar 2]) (x := .ok (.nm 2) [some o2, some (.s d), some (.l (xs.map .s)), none]) ht rfl) (o := .l (xs.map .s)) rfl
      rw [frz_l] at this
      exact this
  · rw [decide_eq_false hz] at ht
    refine ⟨.s (.tup xs), o2, ⟨by rw [g1, frz, tupd, c1], ?_, by rw [g2, frz, dp, c2]⟩, fin, gives (n := 4) (body := b_law_mixed (c_law_mixed n)) (args := [o, .s d]) (go s1 (go s2 ?_)) (e1 := [some o2, some (.s d), some (.l (xs.map .s)), none]) rfl⟩
    · simp only [frz, okV, Bool.and_eq_true, decide_eq_true_eq]; exact ⟨by omega, okVs_of k3⟩
    · exact goV (goIfE ht (goB1 (r := .nm 2) rfl rfl (by simp only [fTuple, lsqO, lstO, allS_map'])))
theorem mixed_ok : ∀ (n : Nat) (d : D), okV d = true → dp d < n → ∀ (m : Int) (o : O), Tn m o → m + sz d < 1000000000 → ∃ r o', Mx d (frz r) ∧ Tn (m + sz d) o' ∧ Gives (c_law_mixed n [o, .s d]) r (some o')
  | 0, d, _, h => absurd h (Nat.not_lt_zero _)
  | n + 1, d, ho, hd => by
    intro m o t hm
    cases d with
    | tup ds =>
      simp only [okV, Bool.and_eq_true, decide_eq_true_eq] at ho
      simp only [dp] at hd
      exact mix_seq (.inl rfl) ho.1 (fun x hx => mixed_ok n x (okVs_mem ho.2 hx) (by have := dps_mem hx; omega)) t hm
    | lst ds =>
      simp only [okV, Bool.and_eq_true, decide_eq_true_eq] at ho
      simp only [dp] at hd
      exact mix_seq (.inr rfl) ho.1 (fun x hx => mixed_ok n x (okVs_mem ho.2 hx) (by have := dps_mem hx; omega)) t hm
    | non => exact ⟨.s .non, o, ⟨rfl, rfl, rfl⟩, t.mono (by show m ≤ m + ((1 : Nat) : Int); omega), ⟨_, rfl, rfl⟩⟩
    | bl b => exact ⟨.s (.bl b), o, ⟨rfl, rfl, rfl⟩, t.mono (by show m ≤ m + ((1 : Nat) : Int); omega), ⟨_, rfl, rfl⟩⟩
    | int i => exact ⟨.s (.int i), o, ⟨rfl, rfl, rfl⟩, t.mono (by show m ≤ m + ((1 : Nat) : Int); omega), ⟨_, rfl, rfl⟩⟩
    | str x => exact ⟨.s (.str x), o, ⟨rfl, ho, rfl⟩, t.mono (by show m ≤ m + ((1 : Nat) : Int); omega), ⟨_, rfl, rfl⟩⟩
    | scr ds => cases ho
    | ty ds => cases ho
    | opq ds => cases ho
end K02
namespace K02
open MI MiS
def rv (o : O) (L : List Nat) (x2 x3 x4 x5 x6 x7 x8 x9 x10 x11 x12 x13 x14 x15 x16 x17 : Option O) : Env := [some o, some (.s (.str L)), x2, x3, x4, x5, x6, x7, x8, x9, x10, x11, x12, x13, x14, x15, x16, x17, none]
def abc : List Nat := [97, 98, 99]
structure Dr (L : List Nat) : Prop where
  gd : Gd L
  sb : ∀ c ∈ L, c ∈ abc
  l3 : L.length ≤ 3
theorem abc_small {c : Nat} (h : c ∈ abc) : c ∈ k_SMALL := by
  have : ∀ c ∈ abc, c ∈ k_SMALL := by decide
  exact this c h
theorem wIn_of {L w : List Nat} (h : ∀ c ∈ w, c ∈ L) : wIn L w = true := by
  simp only [wIn, List.all_eq_true, decide_eq_true_eq]; exact h
section
variable {L : List Nat}
def S1 : SM := sAsg 1 (eSm fJoin (eD (.str [])) (callU c_law_pick [true, false, false] [eVar 0, eD (.str [97, 98, 99]), op2 fAdd (eD (.int 1)) (callU c_law_take [true, false] [eVar 0, eD (.int 3)])]))
theorem s1_ok {m : Int} {o : O} (t : Tn m o) (hm : m < 100000) : ∃ (L : List Nat) (o' : O), Dr L ∧ Tn (m + 4) o' ∧ S1 [some o, none, none, none, none, none, none, none, none, none, none, none, none, none, none, none, none, none, none] = .ok .nx (rv o' L none none none none none none none none none none none none none none none none) := by
  obtain ⟨d1, o1, q1, q2, t1, e1, q3, q4⟩ := take_tn t (by omega) (n := 3) (by omega) (by omega)
  obtain ⟨ys, zs, o2, l2, p2, t2, e2, q5, q6⟩ := pick_str t1 (x := abc) (n := 1 + d1) (by simp [abc]; omega) (by simp [abc]) (by omega)
  have la : abc.length = 3 := rfl
  rw [la] at l2 t2
  have hs : ∀ c ∈ ys, c ∈ abc := fun c hc => p2.mem_iff.mp (List.mem_append_left _ hc)
  have nd : (ys ++ zs).Nodup := p2.nodup_iff.mpr (by decide)
  have ndy : ys.Nodup := (List.nodup_append.mp nd).1
  have ne : ys ≠ [] := fun h => by
    rw [h, List.length_nil] at l2
    omega
  have l4 : ys.length ≤ 3 := by omega
  refine ⟨ys, o2, ⟨gd_of ne ndy (fun c hc => abc_small (hs c hc)) (by omega), hs, l4⟩, t2.mono (by omega), ?_⟩
  refine goA (i := 1) (goSm rfl rfl (r2 := .v (.s (.lst (chs ys)))) (e2 := [some o2, none, none, none, none, none, none, none, none, none, none, none, none, none, none, none, none, none, none]) ?_ rfl rfl (join_chs (by omega)))
  have q5' : c_law_pick [o1, .s (.str [97, 98, 99]), I (1 + d1)] = .ok (.s (.lst (chs ys))) e2 := q5
  simp [eSl, pNo, pSo, eRev, bd, MI.ret, eVar, eD, op2, op1, op3, evs, callB, lookAll, look, opnd, frz, frzs, sseq, sAsg, sPar, sIf, sRet, sExpr, hold, tst, truO, truD, vNot, vAnd, vOr, bAnd, bOr, bNot, eIf, bB, gv, gvs, eTup, eLst, lift, callU, callK, callT, evK, pick, prep, insOf, backTo, fnCR, sSetIx, eMut, itV, itR1, itR2, itE, itZ, itemsOf, sFor, addI, q3, q4, q5', q6]
theorem Dr.wd (d : Dr L) {w : List Nat} (h : ∀ c ∈ w, c ∈ L) (hl : w.length ≤ 3) : Wd L w := ⟨wIn_of h, okS_of fun c hc => okS_mem d.gd.ok (h c hc), by omega⟩
theorem encs_of : ∀ {xs : List D} {Q : Pr → Prop}, (∀ x ∈ xs, ∃ p, x = enc p ∧ Q p) → ∃ ps : List Pr, xs = encs ps ∧ ∀ p ∈ ps, Q p
  | [], _, _ => ⟨[], rfl, fun p hp => by cases hp⟩
  | x :: xs, Q, h => by
    obtain ⟨p, rfl, hp⟩ := h x List.mem_cons_self
    obtain ⟨ps, rfl, hps⟩ := encs_of fun y hy => h y (List.mem_cons_of_mem _ hy)
    refine ⟨p :: ps, rfl, fun q hq => ?_⟩
    rcases List.mem_cons.mp hq with rfl | z
    · exact hp
    · exact hps q z
/-- short words -/
def Ws (L : List Nat) (p : Pr) : Prop := Wp L p ∧ p.1.length ≤ 3 ∧ p.2.length ≤ 3
def B3a : SM := sAsg 3 (eLc (itR1 (callU c_law_take [true, false] [eVar 0, eD (.int 6)])) (gNm 18) (MI.ret true) (eTup [callU c_law_some_word [true, false, false] [eVar 0, eVar 1, eD (.int 3)], callU c_law_some_word [true, false, false] [eVar 0, eVar 1, eD (.int 3)]]) [18])
theorem b3a_ok {m : Int} {o : O} (t : Tn m o) (hm : m < 100000) (d : Dr L) (x2 x3 x4 x5 x6 x7 x8 x9 x10 x11 x12 x13 x14 x15 x16 x17 : Option O) : ∃ (ps : List Pr) (o' : O), ps.length ≤ 5 ∧ (∀ p ∈ ps, Ws L p) ∧ Tn (m + 41) o' ∧ B3a (rv o L x2 x3 x4 x5 x6 x7 x8 x9 x10 x11 x12 x13 x14 x15 x16 x17) = .ok .nx (rv o' L x2 (some (.l ((encs ps).map .s))) x4 x5 x6 x7 x8 x9 x10 x11 x12 x13 x14 x15 x16 x17) := by
  obtain ⟨n, o1, n0, n6, t1, e1, q4, q5⟩ := take_tn t (by omega) (n := 6) (by omega) (by omega)
  have hr : (rngD 0 n).length = n.toNat := by simp [rngD]
  obtain ⟨xs, e2, k1, k2, k3, o4, rfl, t4⟩ := lc_inv (tg := gNm 18) (cond := MI.ret true) (elt := eTup [callU c_law_some_word [true, false, false] [eVar 0, eVar 1, eD (.int 3)], callU c_law_some_word [true, false, false] [eVar 0, eVar 1, eD (.int 3)]]) (own := [18]) (fun i e => ∃ o2, e = (rv o2 L x2 x3 x4 x5 x6 x7 x8 x9 x10 x11 x12 x13 x14 x15 x16 x17) ∧ Tn (m + 1 + 8 * i) o2) (fun z => ∃ p, z = enc p ∧ Ws L p)
    (rngD 0 n) 0 (rv o1 L x2 x3 x4 x5 x6 x7 x8 x9 x10 x11 x12 x13 x14 x15 x16 x17) ⟨o1, rfl, by simpa using t1⟩ fun j z e hj hp => by
      obtain ⟨o2, rfl, t2⟩ := hp
      have hjl : j < n.toNat := by
        have := (List.getElem?_eq_some_iff.mp hj).1
        rw [hr] at this
        exact this
      obtain ⟨w1, o3, r1, r2, t3, e3, r3, r4⟩ := word_ok (n := 3) t2 (by omega) d.gd.ne (by have := d.l3; omega) (by omega) (by omega)
      obtain ⟨w2, o4, s1, s2, t4, e4, s3, s4⟩ := word_ok (n := 3) t3 (by omega) d.gd.ne (by have := d.l3; omega) (by omega) (by omega)
      have u1 : callU c_law_some_word [true, false, false] [eVar 0, eVar 1, eD (.int 3)] ((rv o2 L x2 x3 x4 x5 x6 x7 x8 x9 x10 x11 x12 x13 x14 x15 x16 x17).set 18 (some (.s z))) = .ok (.v (.s (.str w1))) ((rv o3 L x2 x3 x4 x5 x6 x7 x8 x9 x10 x11 x12 x13 x14 x15 x16 x17).set 18 (some (.s z))) := by simp [rv, eSl, pNo, pSo, eRev, bd, MI.ret, eVar, eD, op2, op1, op3, evs, callB, lookAll, look, opnd, frz, frzs, sseq, sAsg, sPar, sIf, sRet, sExpr, hold, tst, truO, truD, vNot, vAnd, vOr, bAnd, bOr, bNot, eIf, bB, gv, gvs, eTup, eLst, lift, callU, callK, callT, evK, pick, prep, insOf, backTo, fnCR, sSetIx, eMut, itV, itR1, itR2, itE, itZ, itemsOf, sFor, r3, r4]
      have u2 : callU c_law_some_word [true, false, false] [eVar 0, eVar 1, eD (.int 3)] ((rv o3 L x2 x3 x4 x5 x6 x7 x8 x9 x10 x11 x12 x13 x14 x15 x16 x17).set 18 (some (.s z))) = .ok (.v (.s (.str w2))) ((rv o4 L x2 x3 x4 x5 x6 x7 x8 x9 x10 x11 x12 x13 x14 x15 x16 x17).set 18 (some (.s z))) := by simp [rv, eSl, pNo, pSo, eRev, bd, MI.ret, eVar, eD, op2, op1, op3, evs, callB, lookAll, look, opnd, frz, frzs, sseq, sAsg, sPar, sIf, sRet, sExpr, hold, tst, truO, truD, vNot, vAnd, vOr, bAnd, bOr, bNot, eIf, bB, gv, gvs, eTup, eLst, lift, callU, callK, callT, evK, pick, prep, insOf, backTo, fnCR, sSetIx, eMut, itV, itR1, itR2, itE, itZ, itemsOf, sFor, s3, s4]
      have a1 : w1.length ≤ 3 := by omega
      have a2 : w2.length ≤ 3 := by omega
      refine ⟨(rv o2 L x2 x3 x4 x5 x6 x7 x8 x9 x10 x11 x12 x13 x14 x15 x16 x17).set 18 (some (.s z)), _, (rv o4 L x2 x3 x4 x5 x6 x7 x8 x9 x10 x11 x12 x13 x14 x15 x16 x17).set 18 (some (.s z)), .v (.s (enc (w1, w2))), (rv o4 L x2 x3 x4 x5 x6 x7 x8 x9 x10 x11 x12 x13 x14 x15 x16 x17).set 18 (some (.s z)), enc (w1, w2), rfl, rfl, goTup (evC u1 (evC u2 ev0)) rfl, rfl, ⟨(w1, w2), rfl, ⟨d.wd r1 a1, d.wd s1 a2⟩, a1, a2⟩, o4, rfl, t4.mono (by omega)⟩
  obtain ⟨ps, rfl, hps⟩ := encs_of k3
  rw [hr] at k2 t4
  have lps : ps.length ≤ 5 := by have : (encs ps).length = ps.length := by simp [encs]
                                 omega
  refine ⟨ps, o4, lps, hps, t4.mono (by omega), goA (i := 3) (goL (e1 := (rv o1 L x2 x3 x4 x5 x6 x7 x8 x9 x10 x11 x12 x13 x14 x15 x16 x17)) (goR1 (r := .v (I n)) ?_ rfl (by simp only [okR, Bool.and_eq_true, decide_eq_true_eq]; omega)) k1 (by simp [encs]; omega))⟩
  simp [rv, eSl, pNo, pSo, eRev, bd, MI.ret, eVar, eD, op2, op1, op3, evs, callB, lookAll, look, opnd, frz, frzs, sseq, sAsg, sPar, sIf, sRet, sExpr, hold, tst, truO, truD, vNot, vAnd, vOr, bAnd, bOr, bNot, eIf, bB, gv, gvs, eTup, eLst, lift, callU, callK, callT, evK, pick, prep, insOf, backTo, fnCR, sSetIx, eMut, itV, itR1, itR2, itE, itZ, itemsOf, sFor, q4, q5]
def B3b : SM := sAsg 3 (eLc (itV (eVar 3)) (gNm 7) (tst (op2 (bB gNe) (op2 fIx (eVar 7) (eD (.int 0))) (op2 fIx (eVar 7) (eD (.int 1))))) (eVar 7) [7])
theorem b3b_ok {o : O} {ps : List Pr} (hp : ∀ p ∈ ps, Ws L p) (hl : ps.length ≤ 5) (x2 x3 x4 x5 x6 x7 x8 x9 x10 x11 x12 x13 x14 x15 x16 x17 : Option O) (h7 : x7 = none ∨ ∃ d, x7 = some (.s d)) : B3b (rv o L x2 (some (.l ((encs ps).map .s))) x4 x5 x6 x7 x8 x9 x10 x11 x12 x13 x14 x15 x16 x17) = .ok .nx (rv o L x2 (some (.l ((encs (ps.filter fun p => decide (p.1 ≠ p.2))).map .s))) x4 x5 x6 x7 x8 x9 x10 x11 x12 x13 x14 x15 x16 x17) := by
  have c := lcF (k := 7) (e := (rv o L x2 (some (.l ((encs ps).map .s))) x4 x5 x6 x7 x8 x9 x10 x11 x12 x13 x14 x15 x16 x17)) (e1 := (rv o L x2 (some (.s (.lst (encs ps)))) x4 x5 x6 x7 x8 x9 x10 x11 x12 x13 x14 x15 x16 x17)) (it := itV (eVar 3)) (ds := encs ps) (cond := tst (op2 (bB gNe) (op2 fIx (eVar 7) (eD (.int 0))) (op2 fIx (eVar 7) (eD (.int 1))))) (elt := eVar 7) (fun d => match d with
    | .tup [.str a, .str b] => decide (a ≠ b)
    | _ => false) (fun d => d) (goIt (r := .nm 3) (d := .lst (encs ps)) rfl (by simp [gv, rv, frz_l]) rfl) (show Fre _ 7 from h7) (by simp [encs]; omega) fun x hx => by
      obtain ⟨p, hp', rfl⟩ := List.mem_map.mp hx
      have w := (hp p hp').1
      have i0 : op2 fIx (eVar 7) (eD (.int 0)) ((rv o L x2 (some (.s (.lst (encs ps)))) x4 x5 x6 x7 x8 x9 x10 x11 x12 x13 x14 x15 x16 x17).set 7 (some (.s (enc p)))) = .ok (.v (.s (.str p.1))) ((rv o L x2 (some (.s (.lst (encs ps)))) x4 x5 x6 x7 x8 x9 x10 x11 x12 x13 x14 x15 x16 x17).set 7 (some (.s (enc p)))) := go2 (r1 := .nm 7) (r2 := .v (I 0)) rfl rfl rfl rfl rfl
      have i1 : op2 fIx (eVar 7) (eD (.int 1)) ((rv o L x2 (some (.s (.lst (encs ps)))) x4 x5 x6 x7 x8 x9 x10 x11 x12 x13 x14 x15 x16 x17).set 7 (some (.s (enc p)))) = .ok (.v (.s (.str p.2))) ((rv o L x2 (some (.s (.lst (encs ps)))) x4 x5 x6 x7 x8 x9 x10 x11 x12 x13 x14 x15 x16 x17).set 7 (some (.s (enc p)))) := go2 (r1 := .nm 7) (r2 := .v (I 1)) rfl rfl rfl rfl rfl
      refine ⟨goTst (o := .s (.bl (decide (p.1 ≠ p.2)))) (go2 i0 i1 rfl rfl ?_) rfl rfl, fun _ => ⟨.nm 7, rfl, rfl⟩⟩
      simp only [bB, gNe, opnd, frz, eqS w.1.ok w.2.ok]
      by_cases h : p.1 = p.2 <;> simp [h]
  have e2 : ((encs ps).filter fun d => match d with
    | .tup [.str a, .str b] => decide (a ≠ b)
    | _ => false) = encs (ps.filter fun p => decide (p.1 ≠ p.2)) := by rw [encs, List.filter_map]; rfl
  rw [e2, List.map_id'] at c
  exact goA (i := 3) c
end
end K02
namespace K02
open MI MiS
def Sok (x : Option O) : Prop := x = none ∨ ∃ d, x = some (.s d)
theorem toP_enc (p : Pr) : toP (enc p) = some (pe p) := by simp only [enc, toP, toPs, pe]
theorem toPs_encs : ∀ ps : List Pr, toPs (encs ps) = some (ps.map pe)
  | [] => rfl
  | p :: ps => by
    show (match toP (enc p), toPs (encs ps) with
      | some p, some ps => some (p :: ps)
      | _, _ => none) = _
    rw [toP_enc, toPs_encs ps]; rfl
theorem can_pe {L : List Nat} : ∀ ps : List Pr, (∀ p ∈ ps, Wp L p) → PySem.PyData.canLayAll0 (ps.map pe) = true ∧ PySem.PyData.depthAll (ps.map pe) ≤ 3
  | [], _ => by simp [PySem.PyData.canLayAll0, PySem.PyData.depthAll]
  | p :: ps, hw => by
    obtain ⟨h1, h2⟩ := can_pe ps fun q hq => hw q (List.mem_cons_of_mem _ hq)
    obtain ⟨w1, w2⟩ := hw p List.mem_cons_self
    have s1 := strOk_of w1.ok
    have s2 := strOk_of w2.ok
    refine ⟨?_, ?_⟩
    · simp only [List.map_cons, PySem.PyData.canLayAll0, PySem.PyData.canLay0, pe, s1, s2, Bool.and_self, Bool.true_and]
      exact h1
    · simp only [List.map_cons, PySem.PyData.depthAll, PySem.PyData.depth, pe]
      have h2' := h2
      unfold pe at h2'
      omega
theorem eqv_pe (p q : Pr) : PySem.PyData.eqv (pe p) (pe q) = decide (p = q) := by
  have e : ∀ x y : List Nat, ((⟨x.toArray⟩ : PySem.Str) == ⟨y.toArray⟩) = decide (x = y) := fun x y => by
    rw [Bool.eq_iff_iff, beq_iff_eq, decide_eq_true_eq]
    refine ⟨fun h => ?_, fun h => by rw [h]⟩
    have := congrArg (fun s : PySem.Str => s.cps.toList) h
    simpa using this
  obtain ⟨a, b⟩ := p
  obtain ⟨c, d⟩ := q
  simp only [pe, PySem.PyData.eqv, PySem.PyData.eqvAll, e, Bool.and_true, Prod.mk.injEq]
  by_cases h1 : a = c <;> by_cases h2 : b = d <;> simp [h1, h2]
theorem ni_enc {L : List Nat} {r : Pr} {rs : List Pr} (hr : Wp L r) (hs : ∀ p ∈ rs, Wp L p) : gNi (.s (enc r)) (.l ((encs rs).map .s)) = some (decide (r ∉ rs)) := by
  have s1 : PySem.SeqAt.shaped (pe r) = true := by
    obtain ⟨h1, h2⟩ := can_pe (L := L) [r] fun p hp => by rw [List.mem_singleton.mp hp]; exact hr
    simp only [List.map_cons, List.map_nil, PySem.PyData.canLayAll0, PySem.PyData.depthAll, Bool.and_true] at h1 h2
    exact Bool.and_eq_true_iff.mpr ⟨h1, decide_eq_true (by omega)⟩
  have s2 : PySem.SeqAt.shaped (.list (rs.map pe)) = true := by
    obtain ⟨h1, h2⟩ := can_pe (L := L) rs hs
    exact Bool.and_eq_true_iff.mpr ⟨h1, decide_eq_true (show PySem.PyData.depthAll (rs.map pe) + 1 ≤ 64 by omega)⟩
  have t2 : toP (frz (.l ((encs rs).map .s))) = some (.list (rs.map pe)) := by rw [frz_l]; simp only [toP, toPs_encs]
  have e1 : gInS (.s (enc r)) (.l ((encs rs).map .s)) = none := rfl
  have e2 : gInL (.s (enc r)) (.l ((encs rs).map .s)) = some (decide (r ∈ rs)) := by
    simp only [gInL, t2]
    rw [show frz (.s (enc r)) = enc r from rfl, toP_enc]
    simp only [s1, s2, Bool.and_self, if_true, Option.some.injEq, List.any_map]
    rw [Bool.eq_iff_iff, List.any_eq_true, decide_eq_true_eq]
    refine ⟨fun ⟨p, hp, h⟩ => ?_, fun h => ⟨r, h, ?_⟩⟩
    · simp only [Function.comp, eqv_pe, decide_eq_true_eq] at h; rw [← h]; exact hp
    · simp only [Function.comp, eqv_pe, decide_true]
  simp only [gNi, gIn, e1, e2]
  by_cases h : r ∈ rs <;> simp [h]
section
variable {L : List Nat}
theorem turn_swap {p : Pr} (w : Wp L p) (ne : p.1 ≠ p.2) : turn L (p.2, p.1) = turn L p := by
  cases h : aheadB L p.1 p.2 with
  | true => simp [turn, h, a_asym h]
  | false => simp [turn, h, a_or w.1.inn w.2.inn ne h]
def B5b : SM := sseq (sAsg 7 (eIf (tst (callU c_law_ahead [false, false, false] [eVar 1, eVar 5, eVar 6])) (eTup [eVar 6, eVar 5]) (eTup [eVar 5, eVar 6])))
  (sAsg 4 (op2 fAdd (eVar 4) (eIf (tst (op2 (bB gNi) (eVar 7) (eVar 4))) (eLst [eVar 7]) (eLst []))))
theorem addL' {xs ys : List D} (h : xs.length + ys.length ≤ 16777216) : fAdd (.l (xs.map .s)) (.l (ys.map .s)) = some (.l ((xs ++ ys).map .s)) := addL h
theorem b5b_ok {o : O} {p : Pr} {rs : List Pr} (hp : Wp L p) (hr : ∀ r ∈ rs, Wp L r) (hl : rs.length ≤ 100) (x2 x3 x4 x5 x6 x7 x8 x9 x10 x11 x12 x13 x14 x15 x16 x17 : Option O) :
    B5b (rv o L x2 x3 (some (.l ((encs rs).map .s))) (some (.s (.str p.1))) (some (.s (.str p.2))) x7 x8 x9 x10 x11 x12 x13 x14 x15 x16 x17) = .ok .nx (rv o L x2 x3 (some (.l ((encs (if turn L p ∈ rs then rs else rs ++ [turn L p])).map .s))) (some (.s (.str p.1))) (some (.s (.str p.2))) (some (.s (enc (turn L p)))) x8 x9 x10 x11 x12 x13 x14 x15 x16 x17) := by
  have k := law_ahead_ok (L := L) (a := p.1) (b := p.2) (by have := hp.1.ln; omega) (by have := hp.2.ln; omega) hp.1.inn hp.2.inn
  have t : tst (callU c_law_ahead [false, false, false] [eVar 1, eVar 5, eVar 6]) (rv o L x2 x3 (some (.l ((encs rs).map .s))) (some (.s (.str p.1))) (some (.s (.str p.2))) x7 x8 x9 x10 x11 x12 x13 x14 x15 x16 x17) = .ok (aheadB L p.1 p.2) (rv o L x2 x3 (some (.l ((encs rs).map .s))) (some (.s (.str p.1))) (some (.s (.str p.2))) x7 x8 x9 x10 x11 x12 x13 x14 x15 x16 x17) := goTst (goUs (evC (r := .nm 1) rfl (evC (r := .nm 5) rfl (evC (r := .nm 6) rfl ev0))) rfl (fun _ => rfl) k) rfl rfl
  have s1 : sAsg 7 (eIf (tst (callU c_law_ahead [false, false, false] [eVar 1, eVar 5, eVar 6])) (eTup [eVar 6, eVar 5]) (eTup [eVar 5, eVar 6])) (rv o L x2 x3 (some (.l ((encs rs).map .s))) (some (.s (.str p.1))) (some (.s (.str p.2))) x7 x8 x9 x10 x11 x12 x13 x14 x15 x16 x17) = .ok .nx (rv o L x2 x3 (some (.l ((encs rs).map .s))) (some (.s (.str p.1))) (some (.s (.str p.2))) (some (.s (enc (turn L p)))) x8 x9 x10 x11 x12 x13 x14 x15 x16 x17) := by
    cases h : aheadB L p.1 p.2 with
    | true =>
      rw [h] at t
      rw [show turn L p = (p.2, p.1) by simp [turn, h]]
      have q : eTup [eVar 6, eVar 5] (rv o L x2 x3 (some (.l ((encs rs).map .s))) (some (.s (.str p.1))) (some (.s (.str p.2))) x7 x8 x9 x10 x11 x12 x13 x14 x15 x16 x17) = .ok (.v (.s (enc (p.2, p.1)))) (rv o L x2 x3 (some (.l ((encs rs).map .s))) (some (.s (.str p.1))) (some (.s (.str p.2))) x7 x8 x9 x10 x11 x12 x13 x14 x15 x16 x17) := goTup (ds := [.str p.2, .str p.1]) (evC (r := .nm 6) rfl (evC (r := .nm 5) rfl ev0)) rfl
      exact goA (i := 7) (goIfT t q)
    | false =>
      rw [h] at t
      rw [show turn L p = p by simp [turn, h]]
      have q : eTup [eVar 5, eVar 6] (rv o L x2 x3 (some (.l ((encs rs).map .s))) (some (.s (.str p.1))) (some (.s (.str p.2))) x7 x8 x9 x10 x11 x12 x13 x14 x15 x16 x17) = .ok (.v (.s (enc p))) (rv o L x2 x3 (some (.l ((encs rs).map .s))) (some (.s (.str p.1))) (some (.s (.str p.2))) x7 x8 x9 x10 x11 x12 x13 x14 x15 x16 x17) := goTup (ds := [.str p.1, .str p.2]) (evC (r := .nm 5) rfl (evC (r := .nm 6) rfl ev0)) rfl
      exact goA (i := 7) (goIfE t q)
  have tn : tst (op2 (bB gNi) (eVar 7) (eVar 4)) (rv o L x2 x3 (some (.l ((encs rs).map .s))) (some (.s (.str p.1))) (some (.s (.str p.2))) (some (.s (enc (turn L p)))) x8 x9 x10 x11 x12 x13 x14 x15 x16 x17) = .ok (decide (turn L p ∉ rs)) (rv o L x2 x3 (some (.l ((encs rs).map .s))) (some (.s (.str p.1))) (some (.s (.str p.2))) (some (.s (enc (turn L p)))) x8 x9 x10 x11 x12 x13 x14 x15 x16 x17) := goTst (o := .s (.bl (decide (turn L p ∉ rs)))) (go2 (r1 := .nm 7) (r2 := .nm 4) rfl rfl rfl rfl (by simp only [bB, ni_enc (turn_wp hp) hr])) rfl rfl
  refine go s1 ?_
  by_cases hm : turn L p ∈ rs
  · rw [decide_eq_false (by simpa using hm)] at tn
    rw [if_pos hm]
    have e : eIf (tst (op2 (bB gNi) (eVar 7) (eVar 4))) (eLst [eVar 7]) (eLst []) (rv o L x2 x3 (some (.l ((encs rs).map .s))) (some (.s (.str p.1))) (some (.s (.str p.2))) (some (.s (enc (turn L p)))) x8 x9 x10 x11 x12 x13 x14 x15 x16 x17) = .ok (.v (.l (([] : List D).map .s))) (rv o L x2 x3 (some (.l ((encs rs).map .s))) (some (.s (.str p.1))) (some (.s (.str p.2))) (some (.s (enc (turn L p)))) x8 x9 x10 x11 x12 x13 x14 x15 x16 x17) := goIfE tn rfl
    have a := go2 (g := fAdd) (r1 := .nm 4) (a := eVar 4) (e := (rv o L x2 x3 (some (.l ((encs rs).map .s))) (some (.s (.str p.1))) (some (.s (.str p.2))) (some (.s (enc (turn L p)))) x8 x9 x10 x11 x12 x13 x14 x15 x16 x17)) (o1 := .l ((encs rs).map .s)) rfl e rfl rfl (addL' (by simp [encs]; omega))
    rw [List.append_nil] at a
    exact goA (i := 4) a
  · rw [decide_eq_true hm] at tn
    rw [if_neg hm]
    have e : eIf (tst (op2 (bB gNi) (eVar 7) (eVar 4))) (eLst [eVar 7]) (eLst []) (rv o L x2 x3 (some (.l ((encs rs).map .s))) (some (.s (.str p.1))) (some (.s (.str p.2))) (some (.s (enc (turn L p)))) x8 x9 x10 x11 x12 x13 x14 x15 x16 x17) = .ok (.v (.l ([enc (turn L p)].map .s))) (rv o L x2 x3 (some (.l ((encs rs).map .s))) (some (.s (.str p.1))) (some (.s (.str p.2))) (some (.s (enc (turn L p)))) x8 x9 x10 x11 x12 x13 x14 x15 x16 x17) := goIfT tn (goLst (ds := [enc (turn L p)]) (evC (r := .nm 7) rfl ev0) rfl)
    have a := go2 (g := fAdd) (r1 := .nm 4) (a := eVar 4) (e := (rv o L x2 x3 (some (.l ((encs rs).map .s))) (some (.s (.str p.1))) (some (.s (.str p.2))) (some (.s (enc (turn L p)))) x8 x9 x10 x11 x12 x13 x14 x15 x16 x17)) (o1 := .l ((encs rs).map .s)) rfl e rfl rfl (addL' (by simp [encs]; omega))
    have ee : encs rs ++ [enc (turn L p)] = encs (rs ++ [turn L p]) := by simp [encs]
    rw [ee] at a
    exact goA (i := 4) a
def B5 : SM := sFor (itV (eVar 3)) (gTp [gNm 5, gNm 6]) B5b
theorem b5_ok {o : O} {ps : List Pr} (hp : ∀ p ∈ ps, Ws L p) (hl : ps.length ≤ 5) (x2 x3 x4 x5 x6 x7 x8 x9 x10 x11 x12 x13 x14 x15 x16 x17 : Option O) (h7 : Sok x7) : ∃ y5 y6 y7, Sok y7 ∧ B5 (rv o L x2 (some (.l ((encs ps).map .s))) (some (.l [])) x5 x6 x7 x8 x9 x10 x11 x12 x13 x14 x15 x16 x17) = .ok .nx (rv o L x2 (some (.s (.lst (encs ps)))) (some (.l ((encs (uq (ps.map (turn L)))).map .s))) (y5) (y6) (y7) x8 x9 x10 x11 x12 x13 x14 x15 x16 x17) := by
  obtain ⟨e', he, y5, y6, y7, rfl, s7⟩ := loop_inv (tg := gTp [gNm 5, gNm 6]) (body := B5b) (fun i e => ∃ y5 y6 y7, e = (rv o L x2 (some (.s (.lst (encs ps)))) (some (.l ((encs (uq ((ps.take i).map (turn L)))).map .s))) (y5) (y6) (y7) x8 x9 x10 x11 x12 x13 x14 x15 x16 x17) ∧ Sok y7) (encs ps) 0 (rv o L x2 (some (.s (.lst (encs ps)))) (some (.l [])) x5 x6 x7 x8 x9 x10 x11 x12 x13 x14 x15 x16 x17) ⟨x5, x6, x7, rfl, h7⟩ fun j d e hj hp' => by
    obtain ⟨y5, y6, y7, rfl, s7⟩ := hp'
    rw [Nat.zero_add]
    rw [encs, List.getElem?_map, Option.map_eq_some_iff] at hj
    obtain ⟨p, hpj, rfl⟩ := hj
    have pm := List.mem_of_getElem? hpj
    have ul := uq_len ((ps.take j).map (turn L))
    rw [List.length_map, List.length_take] at ul
    have hb := b5b_ok (o := o) (rs := uq ((ps.take j).map (turn L))) (hp p pm).1 (fun r hr => by
      obtain ⟨q, hq, rfl⟩ := List.mem_map.mp ((uq_mem _ _).mp hr)
      exact turn_wp (hp q (List.mem_of_mem_take hq)).1) (by omega) x2 (some (.s (.lst (encs ps)))) x4 x5 x6 y7 x8 x9 x10 x11 x12 x13 x14 x15 x16 x17
    refine ⟨(rv o L x2 (some (.s (.lst (encs ps)))) (some (.l ((encs (uq ((ps.take j).map (turn L)))).map .s))) (some (.s (.str p.1))) (some (.s (.str p.2))) (y7) x8 x9 x10 x11 x12 x13 x14 x15 x16 x17), _, rfl, hb, some (.s (.str p.1)), some (.s (.str p.2)), some (.s (enc (turn L p))), ?_, .inr ⟨_, rfl⟩⟩
    rw [take_snoc hpj, List.map_append, List.map_cons, List.map_nil, uq_snoc]
    by_cases hm : turn L p ∈ uq ((ps.take j).map (turn L))
    · rw [if_pos hm, if_pos hm]
    · rw [if_neg hm, if_neg hm]
  have el : 0 + (encs ps).length = ps.length := by simp [encs]
  rw [el, List.take_length] at he
  exact ⟨y5, y6, y7, s7, goF (goIt (r := .nm 3) (d := .lst (encs ps)) rfl (by simp [gv, rv, frz_l]) rfl) he⟩
def B6 : SM := sAsg 8 (eLc (itV (eVar 4)) (gNm 7) (MI.ret true) (op2 fIx (eVar 7) (eD (.int 0))) [7])
theorem b6_ok {o : O} {rs : List Pr} (hl : rs.length ≤ 5) (x2 x3 x4 x5 x6 x7 x8 x9 x10 x11 x12 x13 x14 x15 x16 x17 : Option O) (h7 : Sok x7) : B6 (rv o L x2 x3 (some (.l ((encs rs).map .s))) x5 x6 x7 x8 x9 x10 x11 x12 x13 x14 x15 x16 x17) = .ok .nx (rv o L x2 x3 (some (.s (.lst (encs rs)))) x5 x6 x7 (some (.l (((rs.map (·.1)).map D.str).map .s))) x9 x10 x11 x12 x13 x14 x15 x16 x17) := by
  have c := lcV (k := 7) (e := (rv o L x2 x3 (some (.l ((encs rs).map .s))) x5 x6 x7 x8 x9 x10 x11 x12 x13 x14 x15 x16 x17)) (e1 := (rv o L x2 x3 (some (.s (.lst (encs rs)))) x5 x6 x7 x8 x9 x10 x11 x12 x13 x14 x15 x16 x17)) (it := itV (eVar 4)) (elt := op2 fIx (eVar 7) (eD (.int 0))) (ds := encs rs) (fun d => match d with
    | .tup (a :: _) => a
    | _ => .non) (goIt (r := .nm 4) (d := .lst (encs rs)) rfl (by simp [gv, rv, frz_l]) rfl) (show Fre _ 7 from h7) (by simp [encs]; omega) fun x hx => by
      obtain ⟨q, hq, rfl⟩ := List.mem_map.mp hx
      exact go2 (r1 := .nm 7) (r2 := .v (I 0)) rfl rfl rfl rfl rfl
  have e1 : (encs rs).map (fun d => match d with
    | .tup (a :: _) => a
    | _ => .non) = (rs.map (·.1)).map .str := by rw [encs, List.map_map, List.map_map]; rfl
  rw [e1] at c
  exact goA (i := 8) c
/-- what is due: a book, or none -/
def due (L : List Nat) (us : Option (List Pr)) : O := match us with
  | some us => .s (.tup [.str L, .tup (encs us)])
  | none => canD
def B7 : SM := sAsg 9 (eIf (tst (op2 (bB gEq) (eLenSet (eVar 8)) (callB fLen [eVar 8]))) (eTup [eVar 1, callU c_law_ordered [false, false] [eVar 1, eVar 4]]) (eLst [eD (.str [99, 97, 110, 110, 111, 116]), eD (.bl true)]))
def DueOk (L : List Nat) (rs : List Pr) (u : Option (List Pr)) : Prop := match u with
  | some us => (rs.map (·.1)).Nodup ∧ us.Perm rs ∧ Inc L us
  | none => ¬ (rs.map (·.1)).Nodup
theorem b7_ok {o : O} {rs : List Pr} (hw : ∀ r ∈ rs, Wp L r) (hl : rs.length ≤ 5) (x2 x3 x4 x5 x6 x7 x8 x9 x10 x11 x12 x13 x14 x15 x16 x17 : Option O) : ∃ u, DueOk L rs u ∧ B7 (rv o L x2 x3 (some (.s (.lst (encs rs)))) x5 x6 x7 (some (.l (((rs.map (·.1)).map D.str).map .s))) x9 x10 x11 x12 x13 x14 x15 x16 x17) = .ok .nx (rv o L x2 x3 (some (.s (.lst (encs rs)))) x5 x6 x7 (some (.l (((rs.map (·.1)).map D.str).map .s))) (some (due L u)) x10 x11 x12 x13 x14 x15 x16 x17) := by
  have l1 := lenSetE (m := eVar 8) (e := (rv o L x2 x3 (some (.s (.lst (encs rs)))) x5 x6 x7 (some (.l (((rs.map (·.1)).map D.str).map .s))) x9 x10 x11 x12 x13 x14 x15 x16 x17)) (r := .nm 8) (o := .l (((rs.map (·.1)).map D.str).map .s)) (ds := (rs.map (·.1)).map .str) (xs := rs.map (·.1)) rfl rfl (by simp only [lsqO, lstO, allS_map']) (strs_of _) (by rw [List.length_map]; omega)
  have l2 : callB fLen [eVar 8] (rv o L x2 x3 (some (.s (.lst (encs rs)))) x5 x6 x7 (some (.l (((rs.map (·.1)).map D.str).map .s))) x9 x10 x11 x12 x13 x14 x15 x16 x17) = .ok (.v (I rs.length)) (rv o L x2 x3 (some (.s (.lst (encs rs)))) x5 x6 x7 (some (.l (((rs.map (·.1)).map D.str).map .s))) x9 x10 x11 x12 x13 x14 x15 x16 x17) := goB1 (r := .nm 8) rfl rfl (by rw [lenL]; simp)
  have t := goTst (go2 (g := bB gEq) (o := .s (.bl (decide (((uq (rs.map (·.1))).length : Int) = rs.length)))) l1 l2 rfl rfl (by simp only [bB, opnd, frz, eqI])) rfl rfl
  have hu := uq_nd (rs.map (·.1))
  rw [List.length_map] at hu
  by_cases n : (rs.map (·.1)).Nodup
  · have : ((uq (rs.map (·.1))).length : Int) = rs.length := by rw [hu.mpr n]
    rw [decide_eq_true this] at t
    obtain ⟨us, p1, i1, k⟩ := law_ordered_ok hw n (by omega)
    have u : callU c_law_ordered [false, false] [eVar 1, eVar 4] (rv o L x2 x3 (some (.s (.lst (encs rs)))) x5 x6 x7 (some (.l (((rs.map (·.1)).map D.str).map .s))) x9 x10 x11 x12 x13 x14 x15 x16 x17) = .ok (.v (.s (.tup (encs us)))) (rv o L x2 x3 (some (.s (.lst (encs rs)))) x5 x6 x7 (some (.l (((rs.map (·.1)).map D.str).map .s))) x9 x10 x11 x12 x13 x14 x15 x16 x17) := goUs (evC (r := .nm 1) rfl (evC (r := .nm 4) rfl ev0)) rfl (fun _ => rfl) k
    have q : eTup [eVar 1, callU c_law_ordered [false, false] [eVar 1, eVar 4]] (rv o L x2 x3 (some (.s (.lst (encs rs)))) x5 x6 x7 (some (.l (((rs.map (·.1)).map D.str).map .s))) x9 x10 x11 x12 x13 x14 x15 x16 x17) = .ok (.v (due L (some us))) (rv o L x2 x3 (some (.s (.lst (encs rs)))) x5 x6 x7 (some (.l (((rs.map (·.1)).map D.str).map .s))) x9 x10 x11 x12 x13 x14 x15 x16 x17) := goTup (ds := [.str L, .tup (encs us)]) (evC (r := .nm 1) rfl (evC u ev0)) rfl
    exact ⟨some us, ⟨n, p1, i1⟩, goA (i := 9) (goIfT t q)⟩
  · have : ¬ ((uq (rs.map (·.1))).length : Int) = rs.length := fun z => n (hu.mp (by omega))
    rw [decide_eq_false this] at t
    have q : eLst [eD (.str [99, 97, 110, 110, 111, 116]), eD (.bl true)] (rv o L x2 x3 (some (.s (.lst (encs rs)))) x5 x6 x7 (some (.l (((rs.map (·.1)).map D.str).map .s))) x9 x10 x11 x12 x13 x14 x15 x16 x17) = .ok (.v (due L none)) (rv o L x2 x3 (some (.s (.lst (encs rs)))) x5 x6 x7 (some (.l (((rs.map (·.1)).map D.str).map .s))) x9 x10 x11 x12 x13 x14 x15 x16 x17) := rfl
    exact ⟨none, n, goA (i := 9) (goIfE t q)⟩
end
end K02
namespace K02
open MI MiS
theorem tinU {cm : List O → CR} {M : EM Rs} {o o1 o2 r : O} {rest rest1 : Env} {r2 : Rs} {d : D} (hM : M (some o :: rest) = .ok r2 (some o1 :: rest1)) (hg : gv (opnd r2) (none :: rest1) = .ok d (none :: rest1)) (hc : Gives (cm [o1, .s d]) r (some o2)) :
    callU cm [true, false] [eVar 0, M] (some o :: rest) = .ok (.v r) (some o2 :: rest1) := by
  obtain ⟨e, h1, h2⟩ := hc
  have e0 : eVar 0 (some o :: rest) = .ok (.nm 0) (some o :: rest) := rfl
  have o0 : opnd (Rs.nm 0) = .nm 0 := rfl
  simp [callU, bd, evs, e0, hM, prep, MI.ret, o0, hg, h1, insOf, MI.backTo, h2]
theorem chk {m1 m2 : EM Rs} {e e1 e2 e3 e4 : Env} {r1 r2 : Rs} {g : D} (h1 : m1 e = .ok r1 e1) (h2 : m2 e1 = .ok r2 e2) (g1 : gv (opnd r1) e2 = .ok g e3) (g2 : gv (opnd r2) e3 = .ok g e4) (ho : okD g = true) (hd : dep g < 8) :
    callU (c_law_same 8) [false, false] [m1, m2] e = .ok (.v (.s (.bl true))) e4 :=
  goUs (evC h1 (evC h2 ev0)) (by simp [prep, bd, g1, g2, MI.ret]) (fun _ => rfl) (same_ok 8 g ho hd)
theorem chkS {m1 m2 : EM Rs} {e e1 e2 e3 e4 : Env} {r1 r2 : Rs} {g : D} (h1 : m1 e = .ok r1 e1) (h2 : m2 e1 = .ok r2 e2) (g1 : gv (opnd r1) e2 = .ok g e3) (g2 : gv (opnd r2) e3 = .ok g e4) (ho : okD g = true) (hd : dep g < 8) :
    sIf (bNot (tst (callU (c_law_same 8) [false, false] [m1, m2]))) (sRet (eD (.bl false))) (MI.ret .nx) e = .ok .nx e4 :=
  goE (goNot (k := true) (goTst (chk h1 h2 g1 g2 ho hd) rfl rfl)) rfl
section
variable {L : List Nat}
def tD (L : List Nat) : D → Option Pr
  | .tup [.str a, .str b] => some (turn L (a, b))
  | _ => none
def Nep (L : List Nat) (p : Pr) : Prop := Wp L p ∧ p.1 ≠ p.2
def B8c : EM Rs := eLc (itV (eVar 3)) (gNm 7) (MI.ret true) (eIf (tst (op2 (bB gEq) (callU c_law_take [true, false] [eVar 0, eD (.int 2)]) (eD (.int 0)))) (eVar 7) (eRev (eVar 7))) [7]
theorem b8c_ok {m : Int} {o : O} (t : Tn m o) (hm : m < 100000) {ps : List Pr} (hp : ∀ p ∈ ps, Nep L p) (hl : ps.length ≤ 5) (x2 x3 x4 x5 x6 x7 x8 x9 x10 x11 x12 x13 x14 x15 x16 x17 : Option O) (h7 : Sok x7) : ∃ (qs : List Pr) (o' : O), (∀ q ∈ qs, Nep L q) ∧ qs.map (turn L) = ps.map (turn L) ∧ Tn (m + 5) o' ∧ B8c (rv o L x2 (some (.s (.lst (encs ps)))) x4 x5 x6 x7 x8 x9 x10 x11 x12 x13 x14 x15 x16 x17) = .ok (.v (.l ((encs qs).map .s))) (rv o' L x2 (some (.s (.lst (encs ps)))) x4 x5 x6 x7 x8 x9 x10 x11 x12 x13 x14 x15 x16 x17) := by
  obtain ⟨xs, e', k1, k2, k3, o1, rfl, t1⟩ := lc_invT (tg := gNm 7) (cond := MI.ret true) (elt := eIf (tst (op2 (bB gEq) (callU c_law_take [true, false] [eVar 0, eD (.int 2)]) (eD (.int 0)))) (eVar 7) (eRev (eVar 7))) (own := [7]) (fun i e => ∃ o1, e = (rv o1 L x2 (some (.s (.lst (encs ps)))) x4 x5 x6 (none) x8 x9 x10 x11 x12 x13 x14 x15 x16 x17) ∧ Tn (m + i) o1) (tD L) (fun x => ∃ p, x = enc p ∧ Nep L p) (encs ps) 0 (rv o L x2 (some (.s (.lst (encs ps)))) x4 x5 x6 (none) x8 x9 x10 x11 x12 x13 x14 x15 x16 x17) ⟨o, rfl, by simpa using t⟩ fun j x e hj hp' => by
    obtain ⟨o1, rfl, t1⟩ := hp'
    rw [Nat.zero_add] at t1 ⊢
    have hj' := hj
    rw [encs, List.getElem?_map, Option.map_eq_some_iff] at hj
    obtain ⟨p, hpj, rfl⟩ := hj
    have hjl := (List.getElem?_eq_some_iff.mp hpj).1
    obtain ⟨w, ne⟩ := hp p (List.mem_of_getElem? hpj)
    obtain ⟨z, o2, z1, z2, t2, hc⟩ := take_tn t1 (n := 2) (by omega) (by omega) (by omega)
    have u : callU c_law_take [true, false] [eVar 0, eD (.int 2)] (rv o1 L x2 (some (.s (.lst (encs ps)))) x4 x5 x6 (some (.s (enc p))) x8 x9 x10 x11 x12 x13 x14 x15 x16 x17) = .ok (.v (I z)) (rv o2 L x2 (some (.s (.lst (encs ps)))) x4 x5 x6 (some (.s (enc p))) x8 x9 x10 x11 x12 x13 x14 x15 x16 x17) := tinU (r2 := .v (I 2)) rfl rfl hc
    have ht : tst (op2 (bB gEq) (callU c_law_take [true, false] [eVar 0, eD (.int 2)]) (eD (.int 0))) (rv o1 L x2 (some (.s (.lst (encs ps)))) x4 x5 x6 (some (.s (enc p))) x8 x9 x10 x11 x12 x13 x14 x15 x16 x17) = .ok (decide (z = 0)) (rv o2 L x2 (some (.s (.lst (encs ps)))) x4 x5 x6 (some (.s (enc p))) x8 x9 x10 x11 x12 x13 x14 x15 x16 x17) := goTst (o := .s (.bl (decide (z = 0)))) (go2 (r2 := .v (I 0)) u rfl rfl rfl (by simp only [bB, opnd, frz, eqI])) rfl rfl
    by_cases hz : z = 0
    · rw [decide_eq_true hz] at ht
      exact ⟨(rv o1 L x2 (some (.s (.lst (encs ps)))) x4 x5 x6 (some (.s (enc p))) x8 x9 x10 x11 x12 x13 x14 x15 x16 x17), _, (rv o2 L x2 (some (.s (.lst (encs ps)))) x4 x5 x6 (some (.s (enc p))) x8 x9 x10 x11 x12 x13 x14 x15 x16 x17), .nm 7, (rv o2 L x2 (some (.s (.lst (encs ps)))) x4 x5 x6 (some (.s (enc p))) x8 x9 x10 x11 x12 x13 x14 x15 x16 x17), enc p, rfl, rfl, goIfT ht rfl, rfl, ⟨p, rfl, w, ne⟩, rfl, o2, rfl, t2.mono (by omega)⟩
    · rw [decide_eq_false hz] at ht
      have rvv : eRev (eVar 7) (rv o2 L x2 (some (.s (.lst (encs ps)))) x4 x5 x6 (some (.s (enc p))) x8 x9 x10 x11 x12 x13 x14 x15 x16 x17) = .ok (.v (.s (enc (p.2, p.1)))) (rv o2 L x2 (some (.s (.lst (encs ps)))) x4 x5 x6 (some (.s (enc p))) x8 x9 x10 x11 x12 x13 x14 x15 x16 x17) := rfl
      exact ⟨(rv o1 L x2 (some (.s (.lst (encs ps)))) x4 x5 x6 (some (.s (enc p))) x8 x9 x10 x11 x12 x13 x14 x15 x16 x17), _, (rv o2 L x2 (some (.s (.lst (encs ps)))) x4 x5 x6 (some (.s (enc p))) x8 x9 x10 x11 x12 x13 x14 x15 x16 x17), .v (.s (enc (p.2, p.1))), (rv o2 L x2 (some (.s (.lst (encs ps)))) x4 x5 x6 (some (.s (enc p))) x8 x9 x10 x11 x12 x13 x14 x15 x16 x17), enc (p.2, p.1), rfl, rfl, goIfE ht rvv, rfl, ⟨(p.2, p.1), rfl, ⟨w.2, w.1⟩, Ne.symm ne⟩, by show some (turn L (p.2, p.1)) = some (turn L (p.1, p.2)); rw [turn_swap w ne], o2, rfl, t2.mono (by omega)⟩
  obtain ⟨qs, rfl, hq⟩ := encs_of k3
  have lq : qs.length = ps.length := by have := congrArg List.length k2; simpa [encs] using this
  have el : 0 + (encs ps).length = ps.length := by simp [encs]
  rw [el] at t1
  have em : qs.map (turn L) = ps.map (turn L) := by
    have e1 : ∀ l : List Pr, (encs l).map (tD L) = (l.map (turn L)).map some := fun l => by rw [encs, List.map_map, List.map_map]; rfl
    rw [e1, e1] at k2
    exact (List.map_inj_right (fun a b h => Option.some.inj h)).mp k2
  refine ⟨qs, o1, hq, em, t1.mono (by omega), ?_⟩
  have g := goL (it := itV (eVar 3)) (e := (rv o L x2 (some (.s (.lst (encs ps)))) x4 x5 x6 x7 x8 x9 x10 x11 x12 x13 x14 x15 x16 x17)) (e1 := (rv o L x2 (some (.s (.lst (encs ps)))) x4 x5 x6 x7 x8 x9 x10 x11 x12 x13 x14 x15 x16 x17)) (own := [7]) (goIt (r := .nm 3) (d := .lst (encs ps)) rfl rfl rfl) k1 (by simp [encs]; omega)
  rcases h7 with z | ⟨z, hz⟩
  · subst z; exact g
  · subst hz; exact g
def B8 : SM := sAsg 10 (callU (c_law_mixed 8) [true, false] [eVar 0, callB fTuple [B8c]])
theorem sz_enc (p : Pr) : sz (enc p) = 3 := rfl
theorem szs_encs : ∀ ps : List Pr, szs (encs ps) = 3 * ps.length
  | [] => rfl
  | p :: ps => by
    show sz (enc p) + szs (encs ps) = _
    rw [szs_encs ps, sz_enc, List.length_cons]; omega
theorem dps_encs (ps : List Pr) : dps (encs ps) ≤ 1 := dps_le fun d hd => by
  obtain ⟨p, _, rfl⟩ := List.mem_map.mp hd
  exact Nat.le_refl _
theorem tupds_encs : ∀ ps : List Pr, tupds (encs ps) = encs ps
  | [] => rfl
  | p :: ps => by
    show tupd (enc p) :: tupds (encs ps) = _
    rw [tupds_encs ps]; rfl
theorem okVs_encs {ps : List Pr} (h : ∀ p ∈ ps, Wp L p) : okVs (encs ps) = true := okVs_of fun d hd => by
  obtain ⟨p, hp, rfl⟩ := List.mem_map.mp hd
  exact okV_enc (h p hp)
theorem b8_ok {m : Int} {o : O} (t : Tn m o) (hm : m < 10000) {ps : List Pr} (hp : ∀ p ∈ ps, Nep L p) (hl : ps.length ≤ 5) (x2 x3 x4 x5 x6 x7 x8 x9 x10 x11 x12 x13 x14 x15 x16 x17 : Option O) (h7 : Sok x7) : ∃ (qs : List Pr) (r o' : O), (∀ q ∈ qs, Nep L q) ∧ qs.map (turn L) = ps.map (turn L) ∧ tupd (frz r) = .tup (encs qs) ∧ okV (frz r) = true ∧ dp (frz r) < 8 ∧ Tn (m + 30) o' ∧ B8 (rv o L x2 (some (.s (.lst (encs ps)))) x4 x5 x6 x7 x8 x9 x10 x11 x12 x13 x14 x15 x16 x17) = .ok .nx (rv o' L x2 (some (.s (.lst (encs ps)))) x4 x5 x6 x7 x8 x9 (some r) x11 x12 x13 x14 x15 x16 x17) := by
  obtain ⟨qs, o1, hq, em, t1, k⟩ := b8c_ok t (by omega) hp hl x2 x3 x4 x5 x6 x7 x8 x9 x10 x11 x12 x13 x14 x15 x16 x17 h7
  have lq : qs.length = ps.length := by have := congrArg List.length em; simpa using this
  have k2 := goB1 (f := fTuple) (o := .s (.tup (encs qs))) (o1 := .s (.lst (encs qs))) k (by simp only [opnd, look, frz_l]) rfl
  have ok : okV (.tup (encs qs)) = true := by
    simp only [okV, Bool.and_eq_true, decide_eq_true_eq]
    exact ⟨by simp [encs]; omega, okVs_encs fun q h => (hq q h).1⟩
  have dq : dp (.tup (encs qs)) < 8 := by have := dps_encs qs; simp only [dp]; omega
  have sq : sz (.tup (encs qs)) = 3 * qs.length + 1 := by simp only [sz, szs_encs]
  obtain ⟨r, o2, ⟨r1, r2, r3⟩, t2, hc⟩ := mixed_ok 8 _ ok dq _ _ t1 (by rw [sq]; omega)
  refine ⟨qs, r, o2, hq, em, by rw [r1]; simp only [tupd, tupds_encs], r2, by rw [r3]; exact dq, t2.mono (by rw [sq]; omega), goA (i := 10) (o := r) (e1 := (rv o2 L x2 (some (.s (.lst (encs ps)))) x4 x5 x6 x7 x8 x9 x10 x11 x12 x13 x14 x15 x16 x17)) (tinU k2 rfl hc)⟩
/-- what is heard is what is due -/
theorem heard_due (d : Dr L) {x : D} {qs rs : List Pr} {u : Option (List Pr)} (ho : okV x = true) (hd : dp x < 8) (ht : tupd x = .tup (encs qs)) (hq : ∀ q ∈ qs, Nep L q) (hl : qs.length < 64) (pm : (uq (qs.map (turn L))).Perm rs) (hu : DueOk L rs u) : Ans (c_law_heard [.s (.str L), .s x]) (due L u) := by
  obtain ⟨A, B⟩ := book_ok d.gd ho hd ht hq hl
  cases u with
  | some us =>
    obtain ⟨n, p, i⟩ := hu
    obtain ⟨us', p', i', k⟩ := A ((pm.map _).nodup_iff.mpr n)
    have e : us' = us := inc_uniq (p'.trans (pm.trans p.symm)) i' i
    subst e
    exact heard_ok k
  | none => exact heard_ex (B fun z => hu ((pm.map _).nodup_iff.mp z))
def B9 : SM := sIf (bNot (tst (callU (c_law_same 8) [false, false] [eLst [callU c_law_heard [false, false] [eVar 1, eVar 10], callU c_law_heard [false, false] [eVar 1, op2 fAdd (eVar 3) (eVar 3)]], eLst [eVar 9, eVar 9]]))) (sRet (eD (.bl false))) (MI.ret .nx)
def dueD (L : List Nat) (u : Option (List Pr)) : D := frz (due L u)
theorem okDs_encs {ps : List Pr} (h : ∀ p ∈ ps, Wp L p) : okDs (encs ps) = true ∧ deps (encs ps) ≤ 1 := by
  induction ps with
  | nil => exact ⟨rfl, Nat.zero_le _⟩
  | cons p ps ih =>
    obtain ⟨h1, h2⟩ := ih fun q hq => h q (List.mem_cons_of_mem _ hq)
    obtain ⟨w1, w2⟩ := h p List.mem_cons_self
    refine ⟨?_, ?_⟩
    · show (okD (enc p) && okDs (encs ps)) = true
      rw [h1]
      simp [enc, okD, okDs, w1.ok, w2.ok]
    · show max (dep (enc p)) (deps (encs ps)) ≤ 1
      have : dep (enc p) = 1 := rfl
      omega
theorem due_okD (d : Dr L) {rs : List Pr} {u : Option (List Pr)} (hw : ∀ r ∈ rs, Wp L r) (hl : rs.length ≤ 5) (hu : DueOk L rs u) : okD (dueD L u) = true ∧ dep (dueD L u) ≤ 3 := by
  cases u with
  | none => exact ⟨rfl, (show (1 : Nat) ≤ 3 by decide)⟩
  | some us =>
    obtain ⟨_, p, _⟩ := hu
    obtain ⟨h1, h2⟩ := okDs_encs (L := L) (ps := us) fun r hr => hw r (p.mem_iff.mp hr)
    have h3 : (encs us).length ≤ 16777216 := by have := p.length_eq; simp [encs]; omega
    refine ⟨?_, ?_⟩
    · simp [dueD, due, frz, okD, okDs, d.gd.ok, h1, h3]
    · simp [dueD, due, frz, dep, deps]; omega
theorem b9_ok (d : Dr L) {o r : O} {ps qs : List Pr} {u : Option (List Pr)} (hp : ∀ p ∈ ps, Nep L p) (hl : ps.length ≤ 5) (hu : DueOk L (uq (ps.map (turn L))) u) (hq : ∀ q ∈ qs, Nep L q) (em : qs.map (turn L) = ps.map (turn L)) (r1 : tupd (frz r) = .tup (encs qs)) (r2 : okV (frz r) = true) (r3 : dp (frz r) < 8) (x2 x3 x4 x5 x6 x7 x8 x9 x10 x11 x12 x13 x14 x15 x16 x17 : Option O) :
    B9 (rv o L x2 (some (.s (.lst (encs ps)))) x4 x5 x6 x7 x8 (some (due L u)) (some r) x11 x12 x13 x14 x15 x16 x17) = .ok .nx (rv o L x2 (some (.s (.lst (encs ps)))) x4 x5 x6 x7 x8 (some (.s (dueD L u))) (some (.s (frz r))) x11 x12 x13 x14 x15 x16 x17) := by
  have lq : qs.length = ps.length := by have := congrArg List.length em; simpa using this
  have h1 := heard_due d r2 r3 r1 hq (by omega) (by rw [em]) hu
  have okx : okV (.lst (encs (ps ++ ps))) = true := by
    simp only [okV, Bool.and_eq_true, decide_eq_true_eq]
    exact ⟨by simp [encs]; omega, okVs_encs fun q h => (by rcases List.mem_append.mp h with z | z <;> exact (hp q z).1)⟩
  have pm : (uq ((ps ++ ps).map (turn L))).Perm (uq (ps.map (turn L))) := (List.perm_ext_iff_of_nodup (uq_nodup _) (uq_nodup _)).mpr fun p => by
    rw [uq_mem, uq_mem, List.map_append, List.mem_append, or_self]
  have h2 := heard_due d (x := .lst (encs (ps ++ ps))) (qs := ps ++ ps) okx (by have := dps_encs (ps ++ ps); simp only [dp]; omega) (by simp only [tupd, tupds_encs]) (fun q h => (by rcases List.mem_append.mp h with z | z <;> exact hp q z)) (by rw [List.length_append]; omega) pm hu
  have u1 : callU c_law_heard [false, false] [eVar 1, eVar 10] (rv o L x2 (some (.s (.lst (encs ps)))) x4 x5 x6 x7 x8 (some (due L u)) (some r) x11 x12 x13 x14 x15 x16 x17) = .ok (.v (due L u)) (rv o L x2 (some (.s (.lst (encs ps)))) x4 x5 x6 x7 x8 (some (due L u)) (some (.s (frz r))) x11 x12 x13 x14 x15 x16 x17) := goUs (evC (r := .nm 1) rfl (evC (r := .nm 10) rfl ev0)) rfl (fun _ => rfl) h1
  have ad : op2 fAdd (eVar 3) (eVar 3) (rv o L x2 (some (.s (.lst (encs ps)))) x4 x5 x6 x7 x8 (some (due L u)) (some (.s (frz r))) x11 x12 x13 x14 x15 x16 x17) = .ok (.v (.l ((encs (ps ++ ps)).map .s))) (rv o L x2 (some (.s (.lst (encs ps)))) x4 x5 x6 x7 x8 (some (due L u)) (some (.s (frz r))) x11 x12 x13 x14 x15 x16 x17) := go2 (r1 := .nm 3) (r2 := .nm 3) rfl rfl rfl rfl (by
    have hz : (encs ps).length + (encs ps).length ≤ 16777216 := by simp [encs]; omega
    simp only [fAdd, orF, fAddI, fAddS, fCat, lstO, if_pos hz]
    simp [encs])
  have u2 : callU c_law_heard [false, false] [eVar 1, op2 fAdd (eVar 3) (eVar 3)] (rv o L x2 (some (.s (.lst (encs ps)))) x4 x5 x6 x7 x8 (some (due L u)) (some (.s (frz r))) x11 x12 x13 x14 x15 x16 x17) = .ok (.v (due L u)) (rv o L x2 (some (.s (.lst (encs ps)))) x4 x5 x6 x7 x8 (some (due L u)) (some (.s (frz r))) x11 x12 x13 x14 x15 x16 x17) := goUs (os := [.s (.str L), .s (.lst (encs (ps ++ ps)))]) (evC (r := .nm 1) rfl (evC ad ev0)) (by simp only [prep, bd, gv, opnd, frz_l, MI.ret]; rfl) (fun _ => rfl) h2
  have l1 := goLst (ds := [dueD L u, dueD L u]) (e2 := (rv o L x2 (some (.s (.lst (encs ps)))) x4 x5 x6 x7 x8 (some (due L u)) (some (.s (frz r))) x11 x12 x13 x14 x15 x16 x17)) (evC u1 (evC u2 ev0)) (by cases u <;> rfl)
  have l2 := goLst (ds := [dueD L u, dueD L u]) (e2 := (rv o L x2 (some (.s (.lst (encs ps)))) x4 x5 x6 x7 x8 (some (.s (dueD L u))) (some (.s (frz r))) x11 x12 x13 x14 x15 x16 x17)) (evC (m := eVar 9) (e := (rv o L x2 (some (.s (.lst (encs ps)))) x4 x5 x6 x7 x8 (some (due L u)) (some (.s (frz r))) x11 x12 x13 x14 x15 x16 x17)) (r := .nm 9) rfl (evC (m := eVar 9) (r := .nm 9) rfl ev0)) rfl
  have ul := uq_len (ps.map (turn L))
  rw [List.length_map] at ul
  obtain ⟨a1, a2⟩ := due_okD d (fun r' hr => by
    obtain ⟨q, hq, rfl⟩ := List.mem_map.mp ((uq_mem _ _).mp hr)
    exact turn_wp (hp q hq).1) (by omega) hu
  exact chkS (g := .lst [dueD L u, dueD L u]) l1 l2 (e3 := (rv o L x2 (some (.s (.lst (encs ps)))) x4 x5 x6 x7 x8 (some (.s (dueD L u))) (some (.s (frz r))) x11 x12 x13 x14 x15 x16 x17)) rfl rfl (by simp [okD, okDs, a1]) (by simp [dep, deps]; omega)
end
end K02
namespace K02
open MI MiS
/-! rows of values -/
abbrev vv (d : D) : Rs := .v (.s d)
theorem evP0 {e : Env} : evs [] e = .ok (([] : List D).map vv) e := rfl
theorem evP {m : EM Rs} {ms : List (EM Rs)} {e : Env} {r : Rs} {d : D} {ds : List D} (h : m e = .ok r e) (hr : opnd r = vv d) (k : evs ms e = .ok (ds.map vv) e) : evs (m :: ms) e = .ok ((d :: ds).map vv) e := by
  rw [evC h k, hr]; rfl
theorem gvsP : ∀ (ds : List D) (e : Env), gvs (ds.map vv) e = .ok ds e
  | [], e => rfl
  | d :: ds, e => by simp only [List.map_cons, gvs, bd, gv, frz, gvsP ds e, MI.ret]
theorem goLP {ms : List (EM Rs)} {e : Env} {ds : List D} (k : evs ms e = .ok (ds.map vv) e) : eLst ms e = .ok (.v (.l (ds.map .s))) e := goLst k (gvsP ds e)
theorem goTP {ms : List (EM Rs)} {e : Env} {ds : List D} (k : evs ms e = .ok (ds.map vv) e) : eTup ms e = .ok (.v (.s (.tup ds))) e := goTup k (gvsP ds e)
section
variable {L : List Nat}
/-- a rule that stands -/
def Rg (L : List Nat) (p : Pr) : Prop := Wp L p ∧ aheadB L p.2 p.1 = true
theorem turn_rg {p : Pr} (h : Nep L p) : Rg L (turn L p) := by
  refine ⟨turn_wp h.1, ?_⟩
  cases q : aheadB L p.1 p.2 with
  | true => simp [turn, q]
  | false => simp [turn, q, a_or h.1.1.inn h.1.2.inn h.2 q]
theorem isRl_enc (p : Pr) : isRl L (enc p) = (wIn L p.1 && (wIn L p.2 && aheadB L p.2 p.1)) := rfl
theorem rg_isRl {p : Pr} (h : Rg L p) : isRl L (enc p) = true := by rw [isRl_enc, h.1.1.inn, h.1.2.inn, h.2]; rfl
theorem all_rl {qs : List Pr} (h : ∀ p ∈ qs, Rg L p) : (encs qs).all (isRl L) = true := by
  rw [List.all_eq_true]
  intro d hd
  obtain ⟨p, hp, rfl⟩ := List.mem_map.mp hd
  exact rg_isRl (h p hp)
theorem isB_encs (d : Dr L) {qs : List Pr} (h : ∀ p ∈ qs, Rg L p) : isB (.tup [.str L, .tup (encs qs)]) = incrB L (qs.map (·.1)) := by
  have hl : isL (.str L) = true := by
    have := d.gd.lt
    have ne := d.gd.ne
    cases L with
    | nil => exact absurd rfl ne
    | cons c t => exact this
  simp only [isB, hl, all_rl h, Bool.true_and, lefts_encs]
theorem isB_inc (d : Dr L) {qs : List Pr} (h : ∀ p ∈ qs, Rg L p) (i : Inc L qs) : isB (.tup [.str L, .tup (encs qs)]) = true := by rw [isB_encs d h, inc_incr i]
theorem isB_bad {qs : List D} (h : qs.all (isRl L) = false) : isB (.tup [.str L, .tup qs]) = false := by simp [isB, h]
theorem not_incr' {pre post : List (List Nat)} {x y : List Nat} (h : aheadB L x y = false) : incrB L (pre ++ x :: y :: post) = false := by
  refine not_incr (i := pre.length) (by simp) ?_
  have e1 : (pre ++ x :: y :: post).getD pre.length [] = x := by simp [List.getD_eq_getElem?_getD]
  have e2 : (pre ++ x :: y :: post).getD (pre.length + 1) [] = y := by simp [List.getD_eq_getElem?_getD]
  rw [e1, e2]; exact h
theorem snoc_of {α : Type} : ∀ {l : List α}, l ≠ [] → ∃ p z, l = p ++ [z] := fun {l} h => by
  refine ⟨l.dropLast, l.getLast h, (List.dropLast_concat_getLast h).symm⟩
theorem bad_rev {us : List Pr} (i : Inc L us) (hl : 1 < us.length) : incrB L (us.reverse.map (·.1)) = false := by
  obtain ⟨p, y, rfl⟩ := snoc_of (l := us) (fun z => by subst z; simp at hl)
  have hp : p ≠ [] := fun z => by subst z; simp at hl
  obtain ⟨q, x, rfl⟩ := snoc_of hp
  have hxy : aheadB L x.1 y.1 = true := (List.pairwise_append.mp i).2.2 x (by simp) y (by simp)
  have := not_incr' (L := L) (pre := []) (post := q.reverse.map (·.1)) (a_asym hxy)
  simpa using this
theorem bad_rot {us : List Pr} (i : Inc L us) (hl : 1 < us.length) : incrB L ((us.drop 1 ++ us.take 1).map (·.1)) = false := by
  cases us with
  | nil => simp at hl
  | cons a s =>
    have hs : s ≠ [] := fun z => by subst z; simp at hl
    obtain ⟨q, z, rfl⟩ := snoc_of hs
    have haz : aheadB L a.1 z.1 = true := (List.pairwise_cons.mp i).1 z (by simp)
    have := not_incr' (L := L) (pre := q.map (·.1)) (post := []) (a_asym haz)
    simpa using this
theorem bad_app {us : List Pr} (hl : 1 < us.length) : incrB L ((us ++ us.drop (us.length - 1)).map (·.1)) = false := by
  obtain ⟨q, z, rfl⟩ := snoc_of (l := us) (fun z => by subst z; simp at hl)
  have := not_incr' (L := L) (pre := q.map (·.1)) (post := []) (a_irr (a := z.1))
  simpa using this
theorem okV_L (d : Dr L) : okV (.str L) = true := by
  simp only [okV, d.gd.ok, Bool.true_and, decide_eq_true_eq]; have := d.l3; omega
theorem okV_book (d : Dr L) {rs : List D} (h : okVs rs = true) (hl : rs.length ≤ 1000) : okV (.tup [.str L, .tup rs]) = true := by
  have h1 := okV_L d
  simp only [okV] at h1
  show (decide (2 ≤ 1000) && ((okS L && decide (L.length ≤ 1000)) && ((decide (rs.length ≤ 1000) && okVs rs) && true))) = true
  rw [h1, h, decide_eq_true hl]; rfl
theorem isbE {m : EM Rs} {e e1 e2 : Env} {r : Rs} {x : D} (h : m e = .ok r e1) (hg : gv (opnd r) e1 = .ok x e2) (ho : okV x = true) : callU c_is_book [false] [m] e = .ok (vv (.bl (isB x))) e2 := goU1 h hg (isB_ok ho)
/-- the book's own slots -/
def dB (L : List Nat) (us : List Pr) : D := .tup [.str L, .tup (encs us)]
def B12 : SM := sAsg 12 (eLst [callU c_is_book [false] [eVar 9], callU c_is_book [false] [callB fListA [eVar 9]], callU c_is_book [false] [eTup [eVar 1, callB fListA [eVar 11]]], callU c_is_book [false] [eTup [eVar 1, op2 fAdd (eVar 11) (eTup [eTup [eD (.str []), op2 fIx (eVar 1) (eD (.int 0))]])]]])
theorem b12_ok (d : Dr L) {o : O} {us : List Pr} (hr : ∀ p ∈ us, Rg L p) (i : Inc L us) (hl : us.length ≤ 5) (x2 x3 x4 x5 x6 x7 x8 x9 x10 x11 x12 x13 x14 x15 x16 x17 : Option O) :
    B12 (rv o L x2 x3 x4 x5 x6 x7 x8 (some (.s (dB L us))) x10 (some (.s (.tup (encs us)))) x12 x13 x14 x15 x16 x17) = .ok .nx (rv o L x2 x3 x4 x5 x6 x7 x8 (some (.s (dB L us))) x10 (some (.s (.tup (encs us)))) (some (.l (([.bl true, .bl false, .bl false, .bl false] : List D).map .s))) x13 x14 x15 x16 x17) := by
  have ov : okVs (encs us) = true := okVs_encs fun p hp => (hr p hp).1
  have ll : (encs us).length ≤ 1000 := by simp [encs]; omega
  obtain ⟨h, t, e⟩ : ∃ h t, L = h :: t := by
    cases L with
    | nil => exact absurd rfl d.gd.ne
    | cons h t => exact ⟨h, t, rfl⟩
  have k1 : callU c_is_book [false] [eVar 9] (rv o L x2 x3 x4 x5 x6 x7 x8 (some (.s (dB L us))) x10 (some (.s (.tup (encs us)))) x12 x13 x14 x15 x16 x17) = .ok (vv (.bl (isB (dB L us)))) (rv o L x2 x3 x4 x5 x6 x7 x8 (some (.s (dB L us))) x10 (some (.s (.tup (encs us)))) x12 x13 x14 x15 x16 x17) := isbE (r := .nm 9) rfl rfl (okV_book d ov ll)
  have k2 : callU c_is_book [false] [callB fListA [eVar 9]] (rv o L x2 x3 x4 x5 x6 x7 x8 (some (.s (dB L us))) x10 (some (.s (.tup (encs us)))) x12 x13 x14 x15 x16 x17) = .ok (vv (.bl (isB (.lst [.str L, .tup (encs us)])))) (rv o L x2 x3 x4 x5 x6 x7 x8 (some (.s (dB L us))) x10 (some (.s (.tup (encs us)))) x12 x13 x14 x15 x16 x17) := isbE (r := .v (.l [.s (.str L), .s (.tup (encs us))])) (goB1 (r := .nm 9) rfl rfl rfl) rfl (okV_book d ov ll)
  have k3' : eTup [eVar 1, callB fListA [eVar 11]] (rv o L x2 x3 x4 x5 x6 x7 x8 (some (.s (dB L us))) x10 (some (.s (.tup (encs us)))) x12 x13 x14 x15 x16 x17) = .ok (vv (.tup [.str L, .lst (encs us)])) (rv o L x2 x3 x4 x5 x6 x7 x8 (some (.s (dB L us))) x10 (some (.s (.tup (encs us)))) x12 x13 x14 x15 x16 x17) := goTup (ds := [.str L, .lst (encs us)]) (evC (r := .nm 1) rfl (evC (r := .v (.l ((encs us).map .s))) (goB1 (r := .nm 11) rfl rfl rfl) ev0)) (by simp only [gvs, gv, bd, opnd, MI.ret, frz_l]; rfl)
  have ok3 : okV (.tup [.str L, .lst (encs us)]) = true := by
    have h1 := okV_L d
    simp only [okV] at h1
    show (decide (2 ≤ 1000) && ((okS L && decide (L.length ≤ 1000)) && ((decide ((encs us).length ≤ 1000) && okVs (encs us)) && true))) = true
    rw [h1, ov, decide_eq_true ll]; rfl
  have k3 : callU c_is_book [false] [eTup [eVar 1, callB fListA [eVar 11]]] (rv o L x2 x3 x4 x5 x6 x7 x8 (some (.s (dB L us))) x10 (some (.s (.tup (encs us)))) x12 x13 x14 x15 x16 x17) = .ok (vv (.bl (isB (.tup [.str L, .lst (encs us)])))) (rv o L x2 x3 x4 x5 x6 x7 x8 (some (.s (dB L us))) x10 (some (.s (.tup (encs us)))) x12 x13 x14 x15 x16 x17) := isbE k3' rfl ok3
  have hix : fIx (.s (.str L)) (I 0) = some (.s (.str [h])) := by subst e; simp [fIx, L2.atI, L2.ixN]
  have x0 : op2 fIx (eVar 1) (eD (.int 0)) (rv o L x2 x3 x4 x5 x6 x7 x8 (some (.s (dB L us))) x10 (some (.s (.tup (encs us)))) x12 x13 x14 x15 x16 x17) = .ok (vv (.str [h])) (rv o L x2 x3 x4 x5 x6 x7 x8 (some (.s (dB L us))) x10 (some (.s (.tup (encs us)))) x12 x13 x14 x15 x16 x17) := go2 (r1 := .nm 1) (r2 := .v (I 0)) rfl rfl rfl rfl hix
  have x1 := goTP (evP (m := eD (.str [])) (r := vv (.str [])) (d := .str []) rfl rfl (evP (d := .str [h]) x0 rfl evP0))
  have x2' := goTP (evP (d := enc ([], [h])) x1 rfl evP0)
  have x3' := go2 (g := fAdd) (a := eVar 11) (r1 := .nm 11) (e := (rv o L x2 x3 x4 x5 x6 x7 x8 (some (.s (dB L us))) x10 (some (.s (.tup (encs us)))) x12 x13 x14 x15 x16 x17)) (o1 := .s (.tup (encs us))) (o := .s (.tup (encs (us ++ [([], [h])])))) rfl x2' rfl rfl (by
    have hz : (encs us).length + 1 ≤ 16777216 := by omega
    simp [fAdd, orF, fAddI, fAddS, fCat, fCatT, lstO, hz, encs, enc]
    simpa [encs] using hz)
  have x4' : eTup [eVar 1, op2 fAdd (eVar 11) (eTup [eTup [eD (.str []), op2 fIx (eVar 1) (eD (.int 0))]])] (rv o L x2 x3 x4 x5 x6 x7 x8 (some (.s (dB L us))) x10 (some (.s (.tup (encs us)))) x12 x13 x14 x15 x16 x17) = .ok (vv (.tup [.str L, .tup (encs (us ++ [([], [h])]))])) (rv o L x2 x3 x4 x5 x6 x7 x8 (some (.s (dB L us))) x10 (some (.s (.tup (encs us)))) x12 x13 x14 x15 x16 x17) := goTup (ds := [.str L, .tup (encs (us ++ [([], [h])]))]) (evC (r := .nm 1) rfl (evC x3' ev0)) rfl
  have hh : h ∈ L := by rw [e]; simp
  have oh : okS [h] = true := okS_of fun c hc => by rw [List.mem_singleton.mp hc]; exact okS_mem d.gd.ok hh
  have ov4 : okVs (encs (us ++ [([], [h])])) = true := okVs_of fun x hx => by
    obtain ⟨p, hp, rfl⟩ := List.mem_map.mp hx
    rcases List.mem_append.mp hp with z | z
    · exact okV_enc (hr p z).1
    · rw [List.mem_singleton.mp z]
      show (decide (2 ≤ 1000) && ((okS [] && decide (0 ≤ 1000)) && ((okS [h] && decide (1 ≤ 1000)) && true))) = true
      rw [oh]; rfl
  have k4 : callU c_is_book [false] [eTup [eVar 1, op2 fAdd (eVar 11) (eTup [eTup [eD (.str []), op2 fIx (eVar 1) (eD (.int 0))]])]] (rv o L x2 x3 x4 x5 x6 x7 x8 (some (.s (dB L us))) x10 (some (.s (.tup (encs us)))) x12 x13 x14 x15 x16 x17) = .ok (vv (.bl (isB (.tup [.str L, .tup (encs (us ++ [([], [h])]))])))) (rv o L x2 x3 x4 x5 x6 x7 x8 (some (.s (dB L us))) x10 (some (.s (.tup (encs us)))) x12 x13 x14 x15 x16 x17) := isbE x4' rfl (okV_book d ov4 (by simp [encs]; omega))
  have f1 : isB (dB L us) = true := isB_inc d hr i
  have f2 : isB (.lst [.str L, .tup (encs us)]) = false := rfl
  have f3 : isB (.tup [.str L, .lst (encs us)]) = false := rfl
  have f4 : isB (.tup [.str L, .tup (encs (us ++ [([], [h])]))]) = false := isB_bad (by
    rw [encs, List.map_append, List.all_append]
    have : isRl L (enc ([], [h])) = false := by
      rw [isRl_enc, ahead_eq]
      simp [klt]
    simp [this])
  rw [f1] at k1
  rw [f2] at k2
  rw [f3] at k3
  rw [f4] at k4
  exact goA (i := 12) (goLP (evP k1 rfl (evP k2 rfl (evP k3 rfl (evP k4 rfl evP0)))))
end
end K02
namespace K02
open MI MiS
section
variable {L : List Nat}
def B13 : SM := sIf (bNot (tst (callU (c_law_same 8) [false, false] [eVar 12, eLst [eD (.bl true), eD (.bl false), eD (.bl false), eD (.bl false)]]))) (sRet (eD (.bl false))) (MI.ret .nx)
theorem b13_ok {o : O} (x2 x3 x4 x5 x6 x7 x8 x9 x10 x11 x12 x13 x14 x15 x16 x17 : Option O) : B13 (rv o L x2 x3 x4 x5 x6 x7 x8 x9 x10 x11 (some (.l (([.bl true, .bl false, .bl false, .bl false] : List D).map .s))) x13 x14 x15 x16 x17) = .ok .nx (rv o L x2 x3 x4 x5 x6 x7 x8 x9 x10 x11 (some (.s (.lst [.bl true, .bl false, .bl false, .bl false]))) x13 x14 x15 x16 x17) :=
  chkS (g := .lst [.bl true, .bl false, .bl false, .bl false]) (m1 := eVar 12) (r1 := .nm 12) (r2 := .v (.l (([.bl true, .bl false, .bl false, .bl false] : List D).map .s))) rfl rfl rfl rfl rfl (by decide)
def B14 : SM := sAsg 13 (eLst [eRev (eVar 11), op2 fAdd (eSl fSl (eVar 11) (pSo (eD (.int 1))) pNo) (eSl fSl (eVar 11) pNo (pSo (eD (.int 1)))), op2 fAdd (eVar 11) (eSl fSl (eVar 11) (pSo (op1 fNeg (eD (.int 1)))) pNo)])
def trn (us : List Pr) : List D := [.tup (encs us.reverse), .tup (encs (us.drop 1 ++ us.take 1)), .tup (encs (us ++ us.drop (us.length - 1)))]
theorem slT {ds : List D} (lo hi : Option Int) : fSl (.s (.tup ds)) lo hi = some (.s (.tup (cutL ds lo hi))) := by
  simp only [fSl]
  split
  · rename_i h
    congr 3
    rw [cutL, h.1, h.2]
    simp
  · rfl
theorem addT {xs ys : List D} (h : xs.length + ys.length ≤ 16777216) : fAdd (.s (.tup xs)) (.s (.tup ys)) = some (.s (.tup (xs ++ ys))) := by
  simp only [fAdd, orF, fAddI, fAddS, fCat, fCatT, lstO, if_pos h]
theorem cut_last {α : Type} (w : List α) : cutL w (some (-1)) none = w.drop (w.length - 1) := by
  have h0 : HT.sIx w.length w.length none = w.length := rfl
  have h1 : HT.sIx w.length 0 (some (-1)) = w.length - 1 := by simp [HT.sIx]; omega
  rw [cutL, h0, h1]
  exact List.take_of_length_le (by rw [List.length_drop]; omega)
theorem b14_ok {o : O} {us : List Pr} (hl : us.length ≤ 5) (x2 x3 x4 x5 x6 x7 x8 x9 x10 x11 x12 x13 x14 x15 x16 x17 : Option O) : B14 (rv o L x2 x3 x4 x5 x6 x7 x8 x9 x10 (some (.s (.tup (encs us)))) x12 x13 x14 x15 x16 x17) = .ok .nx (rv o L x2 x3 x4 x5 x6 x7 x8 x9 x10 (some (.s (.tup (encs us)))) x12 (some (.l ((trn us).map .s))) x14 x15 x16 x17) := by
  have a1 : eRev (eVar 11) (rv o L x2 x3 x4 x5 x6 x7 x8 x9 x10 (some (.s (.tup (encs us)))) x12 x13 x14 x15 x16 x17) = .ok (vv (.tup (encs us.reverse))) (rv o L x2 x3 x4 x5 x6 x7 x8 x9 x10 (some (.s (.tup (encs us)))) x12 x13 x14 x15 x16 x17) := go1 (r := .nm 11) rfl rfl (by simp [fRev, encs])
  have s1 : eSl fSl (eVar 11) (pSo (eD (.int 1))) pNo (rv o L x2 x3 x4 x5 x6 x7 x8 x9 x10 (some (.s (.tup (encs us)))) x12 x13 x14 x15 x16 x17) = .ok (vv (.tup (encs (us.drop 1)))) (rv o L x2 x3 x4 x5 x6 x7 x8 x9 x10 (some (.s (.tup (encs us)))) x12 x13 x14 x15 x16 x17) := goSl (r := .nm 11) (lo := some ((1 : Nat) : Int)) rfl (goSo (r := .v (I 1)) rfl rfl) rfl rfl (by rw [slT, cutL_from]; simp [encs])
  have s2 : eSl fSl (eVar 11) pNo (pSo (eD (.int 1))) (rv o L x2 x3 x4 x5 x6 x7 x8 x9 x10 (some (.s (.tup (encs us)))) x12 x13 x14 x15 x16 x17) = .ok (vv (.tup (encs (us.take 1)))) (rv o L x2 x3 x4 x5 x6 x7 x8 x9 x10 (some (.s (.tup (encs us)))) x12 x13 x14 x15 x16 x17) := goSl (r := .nm 11) (hi := some ((1 : Nat) : Int)) rfl rfl (goSo (r := .v (I 1)) rfl rfl) rfl (by rw [slT, cutL_to]; simp [encs])
  have s3 : eSl fSl (eVar 11) (pSo (op1 fNeg (eD (.int 1)))) pNo (rv o L x2 x3 x4 x5 x6 x7 x8 x9 x10 (some (.s (.tup (encs us)))) x12 x13 x14 x15 x16 x17) = .ok (vv (.tup (encs (us.drop (us.length - 1))))) (rv o L x2 x3 x4 x5 x6 x7 x8 x9 x10 (some (.s (.tup (encs us)))) x12 x13 x14 x15 x16 x17) := goSl (r := .nm 11) (lo := some (-1)) rfl (goSo (r := .v (I (-1))) rfl rfl) rfl rfl (by rw [slT, cut_last]; simp [encs])
  have a2 : op2 fAdd (eSl fSl (eVar 11) (pSo (eD (.int 1))) pNo) (eSl fSl (eVar 11) pNo (pSo (eD (.int 1)))) (rv o L x2 x3 x4 x5 x6 x7 x8 x9 x10 (some (.s (.tup (encs us)))) x12 x13 x14 x15 x16 x17) = .ok (vv (.tup (encs (us.drop 1 ++ us.take 1)))) (rv o L x2 x3 x4 x5 x6 x7 x8 x9 x10 (some (.s (.tup (encs us)))) x12 x13 x14 x15 x16 x17) := go2 s1 s2 rfl rfl (by
    rw [show frz (.s (.tup (encs (us.drop 1)))) = .tup (encs (us.drop 1)) from rfl, addT (by simp [encs]; omega)]; simp [encs])
  have a3 : op2 fAdd (eVar 11) (eSl fSl (eVar 11) (pSo (op1 fNeg (eD (.int 1)))) pNo) (rv o L x2 x3 x4 x5 x6 x7 x8 x9 x10 (some (.s (.tup (encs us)))) x12 x13 x14 x15 x16 x17) = .ok (vv (.tup (encs (us ++ us.drop (us.length - 1))))) (rv o L x2 x3 x4 x5 x6 x7 x8 x9 x10 (some (.s (.tup (encs us)))) x12 x13 x14 x15 x16 x17) := go2 (r1 := .nm 11) rfl s3 rfl rfl (by rw [addT (by simp [encs]; omega)]; simp [encs])
  exact goA (i := 13) (goLP (ds := trn us) (evP a1 rfl (evP a2 rfl (evP a3 rfl evP0))))
/-- is_book of each, with something laid round it -/
theorem books_lc {e e1 : Env} {k : Nat} {it : EM (List D)} {M : EM Rs} {ds : List D} (w : D → D) (hit : it e = .ok ds e1) (h7 : Fre e1 7) (hl : ds.length ≤ 1000) (hM : ∀ x ∈ ds, okV (w x) = true ∧ M (e1.set 7 (some (.s x))) = .ok (vv (w x)) (e1.set 7 (some (.s x)))) :
    eLc it (gNm 7) (MI.ret true) (callU c_is_book [false] [M]) [7] e = .ok (.v (.l ((ds.map fun x => .bl (isB (w x))).map .s))) e1 :=
  lcV (fun x => .bl (isB (w x))) hit h7 (by omega) fun x hx => by
    obtain ⟨h1, h2⟩ := hM x hx
    exact isbE h2 rfl h1
def B15 : SM := sIf (bAnd (tst (op2 (bB gGt) (callB fLen [eVar 11]) (eD (.int 1)))) (bNot (tst (callU (c_law_same 8) [false, false] [eLc (itV (eVar 13)) (gNm 7) (MI.ret true) (callU c_is_book [false] [eTup [eVar 1, eVar 7]]) [7], op2 fMulA (eLst [eD (.bl false)]) (eD (.int 3))])))) (sRet (eD (.bl false))) (MI.ret .nx)
theorem okVs_encs' {ps : List Pr} (h : ∀ p ∈ ps, Rg L p) : okVs (encs ps) = true := okVs_encs fun p hp => (h p hp).1
theorem b15_ok (d : Dr L) {o : O} {us : List Pr} (hr : ∀ p ∈ us, Rg L p) (i : Inc L us) (hl : us.length ≤ 5) (x2 x3 x4 x5 x6 x7 x8 x9 x10 x11 x12 x13 x14 x15 x16 x17 : Option O) (h7 : Sok x7) : ∃ y13, B15 (rv o L x2 x3 x4 x5 x6 x7 x8 x9 x10 (some (.s (.tup (encs us)))) x12 (some (.l ((trn us).map .s))) x14 x15 x16 x17) = .ok .nx (rv o L x2 x3 x4 x5 x6 x7 x8 x9 x10 (some (.s (.tup (encs us)))) x12 (y13) x14 x15 x16 x17) := by
  have l1 : callB fLen [eVar 11] (rv o L x2 x3 x4 x5 x6 x7 x8 x9 x10 (some (.s (.tup (encs us)))) x12 (some (.l ((trn us).map .s))) x14 x15 x16 x17) = .ok (vv (.int us.length)) (rv o L x2 x3 x4 x5 x6 x7 x8 x9 x10 (some (.s (.tup (encs us)))) x12 (some (.l ((trn us).map .s))) x14 x15 x16 x17) := goB1 (r := .nm 11) rfl rfl (by simp [fLen, seqO, encs])
  have t : tst (op2 (bB gGt) (callB fLen [eVar 11]) (eD (.int 1))) (rv o L x2 x3 x4 x5 x6 x7 x8 x9 x10 (some (.s (.tup (encs us)))) x12 (some (.l ((trn us).map .s))) x14 x15 x16 x17) = .ok (decide ((1 : Int) < us.length)) (rv o L x2 x3 x4 x5 x6 x7 x8 x9 x10 (some (.s (.tup (encs us)))) x12 (some (.l ((trn us).map .s))) x14 x15 x16 x17) := goTst (o := .s (.bl (decide ((1 : Int) < us.length)))) (go2 (r2 := .v (I 1)) l1 rfl rfl rfl rfl) rfl rfl
  by_cases h : (1 : Int) < us.length
  · rw [decide_eq_true h] at t
    have hgt : 1 < us.length := by omega
    have mem : ∀ qs : List Pr, (∀ p ∈ qs, p ∈ us) → ∀ p ∈ qs, Rg L p := fun qs hq p hp => hr p (hq p hp)
    have m1 := mem us.reverse fun p hp => List.mem_reverse.mp hp
    have m2 := mem (us.drop 1 ++ us.take 1) fun p hp => by
      rcases List.mem_append.mp hp with z | z
      · exact List.mem_of_mem_drop z
      · exact List.mem_of_mem_take z
    have m3 := mem (us ++ us.drop (us.length - 1)) fun p hp => by
      rcases List.mem_append.mp hp with z | z
      · exact z
      · exact List.mem_of_mem_drop z
    have c := books_lc (k := 7) (e := (rv o L x2 x3 x4 x5 x6 x7 x8 x9 x10 (some (.s (.tup (encs us)))) x12 (some (.l ((trn us).map .s))) x14 x15 x16 x17)) (e1 := (rv o L x2 x3 x4 x5 x6 x7 x8 x9 x10 (some (.s (.tup (encs us)))) x12 (some (.s (.lst (trn us)))) x14 x15 x16 x17)) (it := itV (eVar 13)) (M := eTup [eVar 1, eVar 7]) (ds := trn us) (fun x => .tup [.str L, x]) (goIt (r := .nm 13) (d := .lst (trn us)) rfl (by simp [gv, rv, frz_l]) rfl) (show Fre _ 7 from h7) (by simp [trn]) fun x hx => by
      refine ⟨?_, goTup (ds := [.str L, x]) (evC (r := .nm 1) rfl (evC (r := .nm 7) rfl ev0)) rfl⟩
      simp only [trn, List.mem_cons, List.not_mem_nil, or_false] at hx
      rcases hx with rfl | rfl | rfl
      · exact okV_book d (okVs_encs' m1) (by simp [encs]; omega)
      · exact okV_book d (okVs_encs' m2) (by simp [encs]; omega)
      · exact okV_book d (okVs_encs' m3) (by simp [encs]; omega)
    have e : (trn us).map (fun x => D.bl (isB (.tup [.str L, x]))) = [.bl false, .bl false, .bl false] := by
      simp only [trn, List.map_cons, List.map_nil, isB_encs d m1, isB_encs d m2, isB_encs d m3, bad_rev i hgt, bad_rot i hgt, bad_app hgt]
    rw [e] at c
    have k := chk (g := .lst [.bl false, .bl false, .bl false]) (m2 := op2 fMulA (eLst [eD (.bl false)]) (eD (.int 3))) (r2 := .v (.l (([.bl false, .bl false, .bl false] : List D).map .s))) c rfl rfl rfl rfl (by decide)
    exact ⟨_, goE (goAndT t (goNot (k := true) (goTst k rfl rfl))) rfl⟩
  · rw [decide_eq_false h] at t
    exact ⟨_, goE (goAndB t) rfl⟩
theorem of_tup {m : Int} {o : O} {ds : List D} (h : Tn m o) (hm : m < 4611686018427387904) (hx : ds ≠ []) (hl : ds.length < 1073741824) : ∃ x o', x ∈ ds ∧ Tn (m + 1) o' ∧ Gives (c_law_of [o, .s (.tup ds)]) (.s x) (some o') := by
  have h0 : 0 < ds.length := List.length_pos_iff.mpr hx
  obtain ⟨d, o', q1, q2, q3, e, q4, q5⟩ := take_tn h hm (n := ds.length) (by omega) (by omega)
  obtain ⟨x, hc, _, ha⟩ := at_some (xs := ds) q1 q2
  refine ⟨x, o', hc, q3, ?_⟩
  simp [Gives, c_law_of, b_law_of, eSl, pNo, pSo, eRev, bd, MI.ret, eVar, eD, op2, op1, op3, evs, callB, lookAll, look, opnd, frz, frzs, sseq, sAsg, sPar, sIf, sRet, sExpr, hold, tst, truO, truD, vNot, vAnd, vOr, bAnd, bOr, bNot, eIf, bB, gv, gvs, eTup, eLst, lift, callU, callK, callT, evK, pick, prep, insOf, backTo, fnCR, sSetIx, eMut, itV, itR1, itR2, itE, itZ, itemsOf, sFor, fIsi, tyO, tyD, isTy, isTys, fLen, fAbs, fInt, fMin, fMax, seqO, lsqO, lstO, allS, addI, subI, fNeg, gGt, gGe, gLe, fIx, fSl, fRev, fListA, fList, gIsN, isNon, q4, q5, ha]
theorem ne_enc {us : List Pr} (hr : ∀ p ∈ us, Wp L p) : gNe (.s (.tup (encs us))) (.s (.tup [])) = some (decide (us ≠ [])) := by
  have s2 : PySem.SeqAt.shaped (.tuple (us.map pe)) = true := by
    obtain ⟨h1, h2⟩ := can_pe (L := L) us hr
    exact Bool.and_eq_true_iff.mpr ⟨h1, decide_eq_true (show PySem.PyData.depthAll (us.map pe) + 1 ≤ 64 by omega)⟩
  have t1 : toP (.tup (encs us)) = some (.tuple (us.map pe)) := by simp only [toP, toPs_encs]
  have t2 : toP (.tup []) = some (.tuple []) := rfl
  have s3 : PySem.SeqAt.shaped (.tuple []) = true := by decide
  simp only [gNe, gEq, frz, t1, t2, s2, s3, Bool.and_self, if_true]
  cases us with
  | nil => rfl
  | cons p us => rfl
end
end K02
namespace K02
open MI MiS
section
variable {L : List Nat}
def bnt (p : Pr) : List D := [.tup [.str p.1, .str p.1], .tup [.str p.2, .str p.1], .tup [.str p.1], .tup [.str p.1, .str p.2, .str []], .lst [.str p.1, .str p.2], .tup [.str (p.1 ++ [109]), .str p.2], .tup [.str p.1, .non], .tup [.int 3, .str p.2]]
def B16a : SM := sAsg 16 (eLst [eTup [eVar 14, eVar 14], eTup [eVar 15, eVar 14], eTup [eVar 14], eTup [eVar 14, eVar 15, eD (.str [])], eLst [eVar 14, eVar 15], eTup [op2 fAdd (eVar 14) (eD (.str [109])), eVar 15], eTup [eVar 14, eD .non], eTup [eD (.int 3), eVar 15]])
theorem b16a_ok {o : O} {p : Pr} (h : Wp L p) (x2 x3 x4 x5 x6 x7 x8 x9 x10 x11 x12 x13 x14 x15 x16 x17 : Option O) : B16a (rv o L x2 x3 x4 x5 x6 x7 x8 x9 x10 x11 x12 x13 (some (.s (.str p.1))) (some (.s (.str p.2))) x16 x17) = .ok .nx (rv o L x2 x3 x4 x5 x6 x7 x8 x9 x10 x11 x12 x13 (some (.s (.str p.1))) (some (.s (.str p.2))) (some (.l ((bnt p).map .s))) x17) := by
  have a : op2 fAdd (eVar 14) (eD (.str [109])) (rv o L x2 x3 x4 x5 x6 x7 x8 x9 x10 x11 x12 x13 (some (.s (.str p.1))) (some (.s (.str p.2))) x16 x17) = .ok (vv (.str (p.1 ++ [109]))) (rv o L x2 x3 x4 x5 x6 x7 x8 x9 x10 x11 x12 x13 (some (.s (.str p.1))) (some (.s (.str p.2))) x16 x17) := go2 (r1 := .nm 14) (r2 := vv (.str [109])) rfl rfl rfl rfl (addS (by have := h.1.ln; simp; omega))
  have e14 : eVar 14 (rv o L x2 x3 x4 x5 x6 x7 x8 x9 x10 x11 x12 x13 (some (.s (.str p.1))) (some (.s (.str p.2))) x16 x17) = .ok (.nm 14) (rv o L x2 x3 x4 x5 x6 x7 x8 x9 x10 x11 x12 x13 (some (.s (.str p.1))) (some (.s (.str p.2))) x16 x17) := rfl
  have e15 : eVar 15 (rv o L x2 x3 x4 x5 x6 x7 x8 x9 x10 x11 x12 x13 (some (.s (.str p.1))) (some (.s (.str p.2))) x16 x17) = .ok (.nm 15) (rv o L x2 x3 x4 x5 x6 x7 x8 x9 x10 x11 x12 x13 (some (.s (.str p.1))) (some (.s (.str p.2))) x16 x17) := rfl
  have k1 : eTup [eVar 14, eVar 14] (rv o L x2 x3 x4 x5 x6 x7 x8 x9 x10 x11 x12 x13 (some (.s (.str p.1))) (some (.s (.str p.2))) x16 x17) = .ok (vv (.tup [.str p.1, .str p.1])) (rv o L x2 x3 x4 x5 x6 x7 x8 x9 x10 x11 x12 x13 (some (.s (.str p.1))) (some (.s (.str p.2))) x16 x17) := goTup (evC e14 (evC e14 ev0)) rfl
  have k2 : eTup [eVar 15, eVar 14] (rv o L x2 x3 x4 x5 x6 x7 x8 x9 x10 x11 x12 x13 (some (.s (.str p.1))) (some (.s (.str p.2))) x16 x17) = .ok (vv (.tup [.str p.2, .str p.1])) (rv o L x2 x3 x4 x5 x6 x7 x8 x9 x10 x11 x12 x13 (some (.s (.str p.1))) (some (.s (.str p.2))) x16 x17) := goTup (evC e15 (evC e14 ev0)) rfl
  have k3 : eTup [eVar 14] (rv o L x2 x3 x4 x5 x6 x7 x8 x9 x10 x11 x12 x13 (some (.s (.str p.1))) (some (.s (.str p.2))) x16 x17) = .ok (vv (.tup [.str p.1])) (rv o L x2 x3 x4 x5 x6 x7 x8 x9 x10 x11 x12 x13 (some (.s (.str p.1))) (some (.s (.str p.2))) x16 x17) := goTup (evC e14 ev0) rfl
  have k4 : eTup [eVar 14, eVar 15, eD (.str [])] (rv o L x2 x3 x4 x5 x6 x7 x8 x9 x10 x11 x12 x13 (some (.s (.str p.1))) (some (.s (.str p.2))) x16 x17) = .ok (vv (.tup [.str p.1, .str p.2, .str []])) (rv o L x2 x3 x4 x5 x6 x7 x8 x9 x10 x11 x12 x13 (some (.s (.str p.1))) (some (.s (.str p.2))) x16 x17) := goTup (evC e14 (evC e15 (evC (r := vv (.str [])) rfl ev0))) rfl
  have k5 : eLst [eVar 14, eVar 15] (rv o L x2 x3 x4 x5 x6 x7 x8 x9 x10 x11 x12 x13 (some (.s (.str p.1))) (some (.s (.str p.2))) x16 x17) = .ok (.v (.l (([.str p.1, .str p.2] : List D).map .s))) (rv o L x2 x3 x4 x5 x6 x7 x8 x9 x10 x11 x12 x13 (some (.s (.str p.1))) (some (.s (.str p.2))) x16 x17) := goLst (evC e14 (evC e15 ev0)) rfl
  have k6 : eTup [op2 fAdd (eVar 14) (eD (.str [109])), eVar 15] (rv o L x2 x3 x4 x5 x6 x7 x8 x9 x10 x11 x12 x13 (some (.s (.str p.1))) (some (.s (.str p.2))) x16 x17) = .ok (vv (.tup [.str (p.1 ++ [109]), .str p.2])) (rv o L x2 x3 x4 x5 x6 x7 x8 x9 x10 x11 x12 x13 (some (.s (.str p.1))) (some (.s (.str p.2))) x16 x17) := goTup (evC a (evC e15 ev0)) rfl
  have k7 : eTup [eVar 14, eD .non] (rv o L x2 x3 x4 x5 x6 x7 x8 x9 x10 x11 x12 x13 (some (.s (.str p.1))) (some (.s (.str p.2))) x16 x17) = .ok (vv (.tup [.str p.1, .non])) (rv o L x2 x3 x4 x5 x6 x7 x8 x9 x10 x11 x12 x13 (some (.s (.str p.1))) (some (.s (.str p.2))) x16 x17) := goTup (evC e14 (evC (r := vv .non) rfl ev0)) rfl
  have k8 : eTup [eD (.int 3), eVar 15] (rv o L x2 x3 x4 x5 x6 x7 x8 x9 x10 x11 x12 x13 (some (.s (.str p.1))) (some (.s (.str p.2))) x16 x17) = .ok (vv (.tup [.int 3, .str p.2])) (rv o L x2 x3 x4 x5 x6 x7 x8 x9 x10 x11 x12 x13 (some (.s (.str p.1))) (some (.s (.str p.2))) x16 x17) := goTup (evC (m := eD (.int 3)) (r := vv (.int 3)) rfl (evC e15 ev0)) rfl
  exact goA (i := 16) (goLP (ds := bnt p) (evP k1 rfl (evP k2 rfl (evP k3 rfl (evP k4 rfl (evP k5 rfl (evP k6 rfl (evP k7 rfl (evP k8 rfl evP0)))))))))
theorem all1 (x : D) : [x].all (isRl L) = isRl L x := by simp
theorem bnt_bad (d : Dr L) {p : Pr} (h : Rg L p) : (bnt p).map (fun x => D.bl (isB (.tup [.str L, .tup [x]]))) = [.bl false, .bl false, .bl false, .bl false, .bl false, .bl false, .bl false, .bl false] := by
  have n : 109 ∉ L := fun z => by
    have := d.sb _ z
    revert this
    decide
  have b : ∀ x, isRl L x = false → isB (.tup [.str L, .tup [x]]) = false := fun x hx => isB_bad (by rw [all1]; exact hx)
  have b1 := b (.tup [.str p.1, .str p.1]) (by
    have : isRl L (.tup [.str p.1, .str p.1]) = (wIn L p.1 && (wIn L p.1 && aheadB L p.1 p.1)) := rfl
    rw [this, a_irr]; simp)
  have b2 := b (.tup [.str p.2, .str p.1]) (by
    have : isRl L (.tup [.str p.2, .str p.1]) = (wIn L p.2 && (wIn L p.1 && aheadB L p.1 p.2)) := rfl
    rw [this, a_asym h.2]; simp)
  have b3 := b (.tup [.str p.1]) rfl
  have b4 := b (.tup [.str p.1, .str p.2, .str []]) rfl
  have b5 := b (.lst [.str p.1, .str p.2]) rfl
  have b6 := b (.tup [.str (p.1 ++ [109]), .str p.2]) (by
    have : isRl L (.tup [.str (p.1 ++ [109]), .str p.2]) = (wIn L (p.1 ++ [109]) && (wIn L p.2 && aheadB L p.2 (p.1 ++ [109]))) := rfl
    rw [this]
    have : wIn L (p.1 ++ [109]) = false := by simp [wIn, n]
    rw [this]; rfl)
  have b7 := b (.tup [.str p.1, .non]) rfl
  have b8 := b (.tup [.int 3, .str p.2]) rfl
  simp only [bnt, List.map_cons, List.map_nil, b1, b2, b3, b4, b5, b6, b7, b8]
theorem bnt_ok (d : Dr L) {p : Pr} (h : Wp L p) : ∀ x ∈ bnt p, okV x = true := by
  have o1 := okV_str h.1
  have o2 := okV_str h.2
  have o3 : okV (.str (p.1 ++ [109])) = true := by
    have h1 : okS (p.1 ++ [109]) = true := okS_of fun c hc => by
      rcases List.mem_append.mp hc with z | z
      · exact okS_mem h.1.ok z
      · rw [List.mem_singleton.mp z]; decide
    have h2 := h.1.ln
    simp only [okV, h1, Bool.true_and, decide_eq_true_eq, List.length_append, List.length_cons, List.length_nil]; omega
  have tw : ∀ a b : D, okV a = true → okV b = true → okV (.tup [a, b]) = true := fun a b ha hb => by
    show (decide (2 ≤ 1000) && (okV a && (okV b && true))) = true
    rw [ha, hb]; rfl
  intro x hx
  simp only [bnt, List.mem_cons, List.not_mem_nil, or_false] at hx
  rcases hx with rfl | rfl | rfl | rfl | rfl | rfl | rfl | rfl
  · exact tw _ _ o1 o1
  · exact tw _ _ o2 o1
  · show (decide (1 ≤ 1000) && (okV (.str p.1) && true)) = true
    rw [o1]; rfl
  · show (decide (3 ≤ 1000) && (okV (.str p.1) && (okV (.str p.2) && (okV (.str []) && true)))) = true
    rw [o1, o2]; rfl
  · show (decide (2 ≤ 1000) && (okV (.str p.1) && (okV (.str p.2) && true))) = true
    rw [o1, o2]; rfl
  · exact tw _ _ o3 o2
  · exact tw _ _ o1 rfl
  · exact tw _ _ rfl o2
def B16b : SM := sIf (bOr (bNot (tst (callU (c_law_same 8) [false, false] [eLc (itV (eVar 16)) (gNm 7) (MI.ret true) (callU c_is_book [false] [eTup [eVar 1, eTup [eVar 7]]]) [7], op2 fMulA (eLst [eD (.bl false)]) (eD (.int 8))]))) (bNot (tst (callU c_is_book [false] [eTup [eVar 1, eTup [eTup [eVar 14, eVar 15]]]])))) (sRet (eD (.bl false))) (MI.ret .nx)
theorem b16b_ok (d : Dr L) {o : O} {p : Pr} (h : Rg L p) (x2 x3 x4 x5 x6 x7 x8 x9 x10 x11 x12 x13 x14 x15 x16 x17 : Option O) (h7 : Sok x7) : ∃ y16, B16b (rv o L x2 x3 x4 x5 x6 x7 x8 x9 x10 x11 x12 x13 (some (.s (.str p.1))) (some (.s (.str p.2))) (some (.l ((bnt p).map .s))) x17) = .ok .nx (rv o L x2 x3 x4 x5 x6 x7 x8 x9 x10 x11 x12 x13 (some (.s (.str p.1))) (some (.s (.str p.2))) (y16) x17) := by
  have c := books_lc (k := 7) (e := (rv o L x2 x3 x4 x5 x6 x7 x8 x9 x10 x11 x12 x13 (some (.s (.str p.1))) (some (.s (.str p.2))) (some (.l ((bnt p).map .s))) x17)) (e1 := (rv o L x2 x3 x4 x5 x6 x7 x8 x9 x10 x11 x12 x13 (some (.s (.str p.1))) (some (.s (.str p.2))) (some (.s (.lst (bnt p)))) x17)) (it := itV (eVar 16)) (M := eTup [eVar 1, eTup [eVar 7]]) (ds := bnt p) (fun x => .tup [.str L, .tup [x]]) (goIt (r := .nm 16) (d := .lst (bnt p)) rfl (by simp [gv, rv, frz_l]) rfl) (show Fre _ 7 from h7) (by simp [bnt]) fun x hx => by
    refine ⟨okV_book d (by show (okV x && true) = true; rw [bnt_ok d h.1 x hx]; rfl) (by simp), ?_⟩
    have t : eTup [eVar 7] ((rv o L x2 x3 x4 x5 x6 x7 x8 x9 x10 x11 x12 x13 (some (.s (.str p.1))) (some (.s (.str p.2))) (some (.s (.lst (bnt p)))) x17).set 7 (some (.s x))) = .ok (vv (.tup [x])) ((rv o L x2 x3 x4 x5 x6 x7 x8 x9 x10 x11 x12 x13 (some (.s (.str p.1))) (some (.s (.str p.2))) (some (.s (.lst (bnt p)))) x17).set 7 (some (.s x))) := goTup (evC (r := .nm 7) rfl ev0) rfl
    exact goTup (ds := [.str L, .tup [x]]) (evC (r := .nm 1) rfl (evC t ev0)) rfl
  rw [bnt_bad d h] at c
  have k := chk (g := .lst [.bl false, .bl false, .bl false, .bl false, .bl false, .bl false, .bl false, .bl false]) (m2 := op2 fMulA (eLst [eD (.bl false)]) (eD (.int 8))) (r2 := .v (.l (([.bl false, .bl false, .bl false, .bl false, .bl false, .bl false, .bl false, .bl false] : List D).map .s))) c rfl rfl rfl rfl (by decide)
  have t2 : eTup [eVar 14, eVar 15] (rv o L x2 x3 x4 x5 x6 x7 x8 x9 x10 x11 x12 x13 (some (.s (.str p.1))) (some (.s (.str p.2))) (some (.s (.lst (bnt p)))) x17) = .ok (vv (enc p)) (rv o L x2 x3 x4 x5 x6 x7 x8 x9 x10 x11 x12 x13 (some (.s (.str p.1))) (some (.s (.str p.2))) (some (.s (.lst (bnt p)))) x17) := goTup (ds := [.str p.1, .str p.2]) (evC (r := .nm 14) rfl (evC (r := .nm 15) rfl ev0)) rfl
  have t3 := goTP (evP (d := enc p) t2 rfl evP0)
  have t4 : eTup [eVar 1, eTup [eTup [eVar 14, eVar 15]]] (rv o L x2 x3 x4 x5 x6 x7 x8 x9 x10 x11 x12 x13 (some (.s (.str p.1))) (some (.s (.str p.2))) (some (.s (.lst (bnt p)))) x17) = .ok (vv (.tup [.str L, .tup (encs [p])])) (rv o L x2 x3 x4 x5 x6 x7 x8 x9 x10 x11 x12 x13 (some (.s (.str p.1))) (some (.s (.str p.2))) (some (.s (.lst (bnt p)))) x17) := goTup (ds := [.str L, .tup (encs [p])]) (evC (r := .nm 1) rfl (evC t3 ev0)) rfl
  have b1 : isB (.tup [.str L, .tup (encs [p])]) = true := isB_inc d (fun q hq => by rw [List.mem_singleton.mp hq]; exact h) (List.pairwise_singleton _ _)
  have k2 : callU c_is_book [false] [eTup [eVar 1, eTup [eTup [eVar 14, eVar 15]]]] (rv o L x2 x3 x4 x5 x6 x7 x8 x9 x10 x11 x12 x13 (some (.s (.str p.1))) (some (.s (.str p.2))) (some (.s (.lst (bnt p)))) x17) = .ok (vv (.bl (isB (.tup [.str L, .tup (encs [p])])))) (rv o L x2 x3 x4 x5 x6 x7 x8 x9 x10 x11 x12 x13 (some (.s (.str p.1))) (some (.s (.str p.2))) (some (.s (.lst (bnt p)))) x17) := isbE t4 rfl (okV_book d (okVs_encs' fun q hq => by rw [List.mem_singleton.mp hq]; exact h) (by simp [encs]))
  rw [b1] at k2
  exact ⟨_, goE (goOr (goNot (k := true) (goTst k rfl rfl)) (goNot (k := true) (goTst k2 rfl rfl))) rfl⟩
def B16 : SM := sIf (tst (op2 (bB gNe) (eVar 11) (eTup []))) (sseq (sTgt (callU c_law_of [true, false] [eVar 0, eVar 11]) (gTp [gNm 14, gNm 15])) (sseq B16a B16b)) (MI.ret .nx)
theorem b16_ok (d : Dr L) {m : Int} {o : O} (t : Tn m o) (hm : m < 100000) {us : List Pr} (hr : ∀ p ∈ us, Rg L p) (hl : us.length ≤ 5) (x2 x3 x4 x5 x6 x7 x8 x9 x10 x11 x12 x13 x14 x15 x16 x17 : Option O) (h7 : Sok x7) : ∃ o' y14 y15 y16, Tn (m + 1) o' ∧ B16 (rv o L x2 x3 x4 x5 x6 x7 x8 x9 x10 (some (.s (.tup (encs us)))) x12 x13 x14 x15 x16 x17) = .ok .nx (rv o' L x2 x3 x4 x5 x6 x7 x8 x9 x10 (some (.s (.tup (encs us)))) x12 x13 (y14) (y15) (y16) x17) := by
  have ht : tst (op2 (bB gNe) (eVar 11) (eTup [])) (rv o L x2 x3 x4 x5 x6 x7 x8 x9 x10 (some (.s (.tup (encs us)))) x12 x13 x14 x15 x16 x17) = .ok (decide (us ≠ [])) (rv o L x2 x3 x4 x5 x6 x7 x8 x9 x10 (some (.s (.tup (encs us)))) x12 x13 x14 x15 x16 x17) := goTst (o := .s (.bl (decide (us ≠ [])))) (go2 (r1 := .nm 11) (r2 := vv (.tup [])) rfl rfl rfl rfl (by simp only [bB, ne_enc fun p hp => (hr p hp).1])) rfl rfl
  by_cases h : us = []
  · rw [decide_eq_false (by simpa using h)] at ht
    exact ⟨o, x14, x15, x16, t.mono (by omega), goE ht rfl⟩
  · rw [decide_eq_true h] at ht
    obtain ⟨x, o', hx, t', hc⟩ := of_tup (ds := encs us) t (by omega) (by simpa [encs] using h) (by simp [encs]; omega)
    obtain ⟨p, hp, rfl⟩ := List.mem_map.mp hx
    have u : callU c_law_of [true, false] [eVar 0, eVar 11] (rv o L x2 x3 x4 x5 x6 x7 x8 x9 x10 (some (.s (.tup (encs us)))) x12 x13 x14 x15 x16 x17) = .ok (vv (enc p)) (rv o' L x2 x3 x4 x5 x6 x7 x8 x9 x10 (some (.s (.tup (encs us)))) x12 x13 x14 x15 x16 x17) := tinU (r2 := .nm 11) rfl rfl hc
    have s1 : sTgt (callU c_law_of [true, false] [eVar 0, eVar 11]) (gTp [gNm 14, gNm 15]) (rv o L x2 x3 x4 x5 x6 x7 x8 x9 x10 (some (.s (.tup (encs us)))) x12 x13 x14 x15 x16 x17) = .ok .nx (rv o' L x2 x3 x4 x5 x6 x7 x8 x9 x10 (some (.s (.tup (encs us)))) x12 x13 (some (.s (.str p.1))) (some (.s (.str p.2))) x16 x17) := by
      simp only [sTgt, bd, u, gv, frz]
      rfl
    have s2 := b16a_ok (o := o') (hr p hp).1 x2 x3 x4 x5 x6 x7 x8 x9 x10 (some (.s (.tup (encs us)))) x12 x13 x14 x15 x16 x17
    obtain ⟨y16, s3⟩ := b16b_ok d (o := o') (hr p hp) x2 x3 x4 x5 x6 x7 x8 x9 x10 (some (.s (.tup (encs us)))) x12 x13 x14 x15 x16 x17 h7
    exact ⟨o', _, _, y16, t', goT ht (go s1 (go s2 s3))⟩
def B10 : SM := sIf (tst (callB fIsi [eVar 9, eD (.ty "tuple")])) (sseq (sAsg 11 (op2 fIx (eVar 9) (eD (.int 1)))) (sseq B12 (sseq B13 (sseq B14 (sseq B15 B16))))) (MI.ret .nx)
theorem b10_ok (d : Dr L) {m : Int} {o : O} (t : Tn m o) (hm : m < 100000) {rs : List Pr} {u : Option (List Pr)} (hw : ∀ p ∈ rs, Rg L p) (hl : rs.length ≤ 5) (hu : DueOk L rs u) (x2 x3 x4 x5 x6 x7 x8 x9 x10 x11 x12 x13 x14 x15 x16 x17 : Option O) (h7 : Sok x7) : ∃ o' y11 y12 y13 y14 y15 y16, Tn (m + 1) o' ∧ B10 (rv o L x2 x3 x4 x5 x6 x7 x8 (some (.s (dueD L u))) x10 x11 x12 x13 x14 x15 x16 x17) = .ok .nx (rv o' L x2 x3 x4 x5 x6 x7 x8 (some (.s (dueD L u))) x10 (y11) (y12) (y13) (y14) (y15) (y16) x17) := by
  cases u with
  | none => exact ⟨o, x11, x12, x13, x14, x15, x16, t.mono (by omega), rfl⟩
  | some us =>
    obtain ⟨_, pm, i⟩ := hu
    have hr : ∀ p ∈ us, Rg L p := fun p hp => hw p (pm.mem_iff.mp hp)
    have lu : us.length ≤ 5 := by rw [pm.length_eq]; exact hl
    have ht : tst (callB fIsi [eVar 9, eD (.ty "tuple")]) (rv o L x2 x3 x4 x5 x6 x7 x8 (some (.s (dB L us))) x10 x11 x12 x13 x14 x15 x16 x17) = .ok true (rv o L x2 x3 x4 x5 x6 x7 x8 (some (.s (dB L us))) x10 x11 x12 x13 x14 x15 x16 x17) := rfl
    have s0 : op2 fIx (eVar 9) (eD (.int 1)) (rv o L x2 x3 x4 x5 x6 x7 x8 (some (.s (dB L us))) x10 x11 x12 x13 x14 x15 x16 x17) = .ok (vv (.tup (encs us))) (rv o L x2 x3 x4 x5 x6 x7 x8 (some (.s (dB L us))) x10 x11 x12 x13 x14 x15 x16 x17) := go2 (r1 := .nm 9) (r2 := .v (I 1)) rfl rfl rfl rfl rfl
    have s1 : sAsg 11 (op2 fIx (eVar 9) (eD (.int 1))) (rv o L x2 x3 x4 x5 x6 x7 x8 (some (.s (dB L us))) x10 x11 x12 x13 x14 x15 x16 x17) = .ok .nx (rv o L x2 x3 x4 x5 x6 x7 x8 (some (.s (dB L us))) x10 (some (.s (.tup (encs us)))) x12 x13 x14 x15 x16 x17) := goA (i := 11) s0
    have s2 := b12_ok d (o := o) hr i lu x2 x3 x4 x5 x6 x7 x8 x9 x10 x11 x12 x13 x14 x15 x16 x17
    have s3 := b13_ok (L := L) (o := o) x2 x3 x4 x5 x6 x7 x8 (some (.s (dB L us))) x10 (some (.s (.tup (encs us)))) x12 x13 x14 x15 x16 x17
    have s4 := b14_ok (L := L) (o := o) lu x2 x3 x4 x5 x6 x7 x8 (some (.s (dB L us))) x10 x11 (some (.s (.lst [.bl true, .bl false, .bl false, .bl false]))) x13 x14 x15 x16 x17
    obtain ⟨y13, s5⟩ := b15_ok d (o := o) hr i lu x2 x3 x4 x5 x6 x7 x8 (some (.s (dB L us))) x10 x11 (some (.s (.lst [.bl true, .bl false, .bl false, .bl false]))) x13 x14 x15 x16 x17 h7
    obtain ⟨o', y14, y15, y16, t', s6⟩ := b16_ok d t hm hr lu x2 x3 x4 x5 x6 x7 x8 (some (.s (dB L us))) x10 x11 (some (.s (.lst [.bl true, .bl false, .bl false, .bl false]))) y13 x14 x15 x16 x17 h7
    exact ⟨o', _, _, y13, y14, y15, y16, t', goT ht (go s1 (go s2 (go s3 (go s4 (go s5 s6)))))⟩
end
end K02
namespace K02
open MI MiS
section
variable {L : List Nat}
def lapB : SM := sseq B3a (sseq B3b (sseq (sAsg 4 (eLst [])) (sseq B5 (sseq B6 (sseq B7 (sseq B8 (sseq B9 B10)))))))
theorem lap_ok (d : Dr L) {m : Int} {o : O} (t : Tn m o) (hm : m < 1000) (x2 x3 x4 x5 x6 x7 x8 x9 x10 x11 x12 x13 x14 x15 x16 x17 : Option O) (h7 : Sok x7) : ∃ o' y3 y4 y5 y6 y7 y8 y9 y10 y11 y12 y13 y14 y15 y16, Sok y7 ∧ Tn (m + 72) o' ∧ lapB (rv o L x2 x3 x4 x5 x6 x7 x8 x9 x10 x11 x12 x13 x14 x15 x16 x17) = .ok .nx (rv o' L x2 (y3) (y4) (y5) (y6) (y7) (y8) (y9) (y10) (y11) (y12) (y13) (y14) (y15) (y16) x17) := by
  obtain ⟨ps0, o1, l0, w0, t1, s1⟩ := b3a_ok t (by omega) d x2 x3 x4 x5 x6 x7 x8 x9 x10 x11 x12 x13 x14 x15 x16 x17
  have s2 := b3b_ok (o := o1) w0 l0 x2 x3 x4 x5 x6 x7 x8 x9 x10 x11 x12 x13 x14 x15 x16 x17 h7
  generalize hps : ps0.filter (fun p => decide (p.1 ≠ p.2)) = ps at s2
  have lp : ps.length ≤ 5 := by rw [← hps]; exact Nat.le_trans (List.length_filter_le _ _) l0
  have wp : ∀ p ∈ ps, Ws L p ∧ p.1 ≠ p.2 := fun p hp => by
    rw [← hps] at hp
    have := List.mem_filter.mp hp
    exact ⟨w0 p this.1, by simpa using this.2⟩
  have np : ∀ p ∈ ps, Nep L p := fun p hp => ⟨(wp p hp).1.1, (wp p hp).2⟩
  have s3 : sAsg 4 (eLst []) (rv o1 L x2 (some (.l ((encs ps).map .s))) x4 x5 x6 x7 x8 x9 x10 x11 x12 x13 x14 x15 x16 x17) = .ok .nx (rv o1 L x2 (some (.l ((encs ps).map .s))) (some (.l [])) x5 x6 x7 x8 x9 x10 x11 x12 x13 x14 x15 x16 x17) := rfl
  obtain ⟨y5, y6, y7, hy7, s4⟩ := b5_ok (o := o1) (fun p hp => (wp p hp).1) lp x2 x3 x4 x5 x6 x7 x8 x9 x10 x11 x12 x13 x14 x15 x16 x17 h7
  have ul := uq_len (ps.map (turn L))
  rw [List.length_map] at ul
  have wr : ∀ r ∈ uq (ps.map (turn L)), Rg L r := fun r hr => by
    obtain ⟨q, hq, rfl⟩ := List.mem_map.mp ((uq_mem _ _).mp hr)
    exact turn_rg (np q hq)
  have s5 := b6_ok (L := L) (o := o1) (rs := uq (ps.map (turn L))) (by omega) x2 (some (.s (.lst (encs ps)))) x4 y5 y6 y7 x8 x9 x10 x11 x12 x13 x14 x15 x16 x17 hy7
  obtain ⟨u, hu, s6⟩ := b7_ok (L := L) (o := o1) (rs := uq (ps.map (turn L))) (fun r hr => (wr r hr).1) (by omega) x2 (some (.s (.lst (encs ps)))) x4 y5 y6 y7 x8 x9 x10 x11 x12 x13 x14 x15 x16 x17
  obtain ⟨qs, r, o2, hq, em, r1, r2, r3, t2, s7⟩ := b8_ok t1 (by omega) np lp x2 x3 (some (.s (.lst (encs (uq (ps.map (turn L))))))) y5 y6 y7 (some (.l ((((uq (ps.map (turn L))).map (·.1)).map D.str).map .s))) (some (due L u)) x10 x11 x12 x13 x14 x15 x16 x17 hy7
  have s8 := b9_ok d (o := o2) np lp hu hq em r1 r2 r3 x2 x3 (some (.s (.lst (encs (uq (ps.map (turn L))))))) y5 y6 y7 (some (.l ((((uq (ps.map (turn L))).map (·.1)).map D.str).map .s))) x9 x10 x11 x12 x13 x14 x15 x16 x17
  obtain ⟨o3, y11, y12, y13, y14, y15, y16, t3, s9⟩ := b10_ok d t2 (by omega) wr (by omega) hu x2 (some (.s (.lst (encs ps)))) (some (.s (.lst (encs (uq (ps.map (turn L))))))) y5 y6 y7 (some (.l ((((uq (ps.map (turn L))).map (·.1)).map D.str).map .s))) x9 (some (.s (frz r))) x11 x12 x13 x14 x15 x16 x17 hy7
  exact ⟨o3, _, _, y5, y6, y7, _, _, _, y11, y12, y13, y14, y15, y16, hy7, t3.mono (by omega), go s1 (go s2 (go s3 (go s4 (go s5 (go s6 (go s7 (go s8 s9)))))))⟩
theorem laps_ok (d : Dr L) {m : Int} {o : O} (t : Tn m o) (hm : m < 100) : ∃ (o' : O) (x2 x3 x4 x5 x6 x7 x8 x9 x10 x11 x12 x13 x14 x15 x16 x17 : Option O), Sok x7 ∧ sFor (itR1 (eD (.int 4))) (gNm 2) lapB (rv o L none none none none none none none none none none none none none none none none) = .ok .nx (rv o' L x2 x3 x4 x5 x6 x7 x8 x9 x10 x11 x12 x13 x14 x15 x16 x17) := by
  obtain ⟨e', he, o1, x2, x3, x4, x5, x6, x7, x8, x9, x10, x11, x12, x13, x14, x15, x16, x17, rfl, h7, t1⟩ := loop_inv (tg := gNm 2) (body := lapB) (fun i e => ∃ (o : O) (x2 x3 x4 x5 x6 x7 x8 x9 x10 x11 x12 x13 x14 x15 x16 x17 : Option O), e = (rv o L x2 x3 x4 x5 x6 x7 x8 x9 x10 x11 x12 x13 x14 x15 x16 x17) ∧ Sok x7 ∧ Tn (m + 72 * i) o) (rngD 0 4) 0 (rv o L none none none none none none none none none none none none none none none none) ⟨o, none, none, none, none, none, none, none, none, none, none, none, none, none, none, none, none, rfl, .inl rfl, by simpa using t⟩ fun j d2 e hj hp => by
    obtain ⟨o1, x2, x3, x4, x5, x6, x7, x8, x9, x10, x11, x12, x13, x14, x15, x16, x17, rfl, h7, t1⟩ := hp
    have hjl : j < 4 := (List.getElem?_eq_some_iff.mp hj).1
    obtain ⟨o2, y3, y4, y5, y6, y7, y8, y9, y10, y11, y12, y13, y14, y15, y16, hy, t2, s⟩ := lap_ok d t1 (by omega) (some (.s d2)) x3 x4 x5 x6 x7 x8 x9 x10 x11 x12 x13 x14 x15 x16 x17 h7
    exact ⟨(rv o1 L (some (.s d2)) x3 x4 x5 x6 x7 x8 x9 x10 x11 x12 x13 x14 x15 x16 x17), _, rfl, s, o2, _, _, _, _, _, _, _, _, _, _, _, _, _, _, _, _, rfl, hy, t2.mono (by omega)⟩
  exact ⟨o1, x2, x3, x4, x5, x6, x7, x8, x9, x10, x11, x12, x13, x14, x15, x16, x17, h7, goF (goR1 (r := .v (I 4)) rfl rfl rfl) he⟩
/-! things -/
def thg : List D := [.non, .int 3, .str [97, 98], .tup [], .tup [.str [97, 98]], .tup [.str [97, 98], .tup [], .tup []], .tup [.str [97, 97], .tup []], .tup [.str [], .tup []], .tup [.tup [.str [97], .str [98]], .tup []], .tup [.str [97, 98], .non], .tup [.str [97, 98], .str [98, 97]], .tup [.tup [.str [97, 98], .tup []]], .tup [.str [97, 66], .tup []], .tup [.bl true, .tup []]]
def S17 : SM := sAsg 17 (eLst [eD .non, eD (.int 3), eD (.str [97, 98]), eTup [], eTup [eD (.str [97, 98])], eTup [eD (.str [97, 98]), eTup [], eTup []], eTup [eD (.str [97, 97]), eTup []], eTup [eD (.str []), eTup []], eTup [eTup [eD (.str [97]), eD (.str [98])], eTup []], eTup [eD (.str [97, 98]), eD .non], eTup [eD (.str [97, 98]), eD (.str [98, 97])], eTup [eTup [eD (.str [97, 98]), eTup []]], eTup [eD (.str [97, 66]), eTup []], eTup [eD (.bl true), eTup []]])
theorem s17_ok {o : O} (x2 x3 x4 x5 x6 x7 x8 x9 x10 x11 x12 x13 x14 x15 x16 x17 : Option O) : S17 (rv o L x2 x3 x4 x5 x6 x7 x8 x9 x10 x11 x12 x13 x14 x15 x16 x17) = .ok .nx (rv o L x2 x3 x4 x5 x6 x7 x8 x9 x10 x11 x12 x13 x14 x15 x16 (some (.l (thg.map .s)))) :=
  goA (i := 17) (goLP (ds := thg) (evP (r := vv .non) rfl rfl (evP (r := vv (.int 3)) rfl rfl (evP (r := vv (.str [97, 98])) rfl rfl (evP (r := vv (.tup [])) rfl rfl (evP (r := vv (.tup [.str [97, 98]])) rfl rfl (evP (r := vv (.tup [.str [97, 98], .tup [], .tup []])) rfl rfl (evP (r := vv (.tup [.str [97, 97], .tup []])) rfl rfl (evP (r := vv (.tup [.str [], .tup []])) rfl rfl (evP (r := vv (.tup [.tup [.str [97], .str [98]], .tup []])) rfl rfl (evP (r := vv (.tup [.str [97, 98], .non])) rfl rfl (evP (r := vv (.tup [.str [97, 98], .str [98, 97]])) rfl rfl (evP (r := vv (.tup [.tup [.str [97, 98], .tup []]])) rfl rfl (evP (r := vv (.tup [.str [97, 66], .tup []])) rfl rfl (evP (r := vv (.tup [.bl true, .tup []])) rfl rfl evP0)))))))))))))))
def f14 : List D := [.bl false, .bl false, .bl false, .bl false, .bl false, .bl false, .bl false, .bl false, .bl false, .bl false, .bl false, .bl false, .bl false, .bl false]
theorem thg_bad : thg.map (fun x => D.bl (isB x)) = f14 := by
  have h : thg.map isB = [false, false, false, false, false, false, false, false, false, false, false, false, false, false] := by decide +kernel
  have e : thg.map (fun x => D.bl (isB x)) = (thg.map isB).map D.bl := by rw [List.map_map]; rfl
  rw [e, h]; rfl
theorem thg_okV : okVs thg = true := by decide +kernel
def S18 : SM := sIf (bNot (tst (callU (c_law_same 8) [false, false] [eLc (itV (eVar 17)) (gNm 7) (MI.ret true) (callU c_is_book [false] [eVar 7]) [7], op2 fMulA (eLst [eD (.bl false)]) (eD (.int 14))]))) (sRet (eD (.bl false))) (MI.ret .nx)
theorem s18_ok {o : O} (x2 x3 x4 x5 x6 x7 x8 x9 x10 x11 x12 x13 x14 x15 x16 x17 : Option O) (h7 : Sok x7) : S18 (rv o L x2 x3 x4 x5 x6 x7 x8 x9 x10 x11 x12 x13 x14 x15 x16 (some (.l (thg.map .s)))) = .ok .nx (rv o L x2 x3 x4 x5 x6 x7 x8 x9 x10 x11 x12 x13 x14 x15 x16 (some (.s (.lst thg)))) := by
  have c := lcV (k := 7) (e := (rv o L x2 x3 x4 x5 x6 x7 x8 x9 x10 x11 x12 x13 x14 x15 x16 (some (.l (thg.map .s))))) (e1 := (rv o L x2 x3 x4 x5 x6 x7 x8 x9 x10 x11 x12 x13 x14 x15 x16 (some (.s (.lst thg))))) (it := itV (eVar 17)) (elt := callU c_is_book [false] [eVar 7]) (ds := thg) (fun x => .bl (isB x)) (goIt (r := .nm 17) (d := .lst thg) rfl (by simp [gv, rv, frz_l]) rfl) (show Fre _ 7 from h7) (by decide) fun x hx => isbE (r := .nm 7) rfl rfl (okVs_mem thg_okV hx)
  rw [thg_bad] at c
  exact chkS (g := .lst f14) (m2 := op2 fMulA (eLst [eD (.bl false)]) (eD (.int 14))) (r2 := .v (.l (f14.map .s))) c rfl rfl rfl (by decide) (by decide)
def bk5 : List D := [.tup [.str [97, 98], .tup [.tup [.str [98, 97], .str [97, 98]]]], .tup [.str [98, 97], .tup [.tup [.str [98, 97], .str [97, 98]]]], .tup [.str [98, 97], .tup [.tup [.str [97, 98], .str [98, 97]]]], .tup [.str [97, 98], .tup [.tup [.str [98], .str [97]]]], .tup [.str [97, 98], .tup [.tup [.str [97], .str []], .tup [.str [98], .str []]]]]
theorem bk5_is : bk5.map (fun x => D.bl (isB x)) = [.bl true, .bl false, .bl true, .bl true, .bl true] := by
  have h : bk5.map isB = [true, false, true, true, true] := by decide +kernel
  have e : bk5.map (fun x => D.bl (isB x)) = (bk5.map isB).map D.bl := by rw [List.map_map]; rfl
  rw [e, h]; rfl
theorem bk5_okV : okVs bk5 = true := by decide +kernel
def S19 : SM := sAsg 12 (eLst [callU c_is_book [false] [eTup [eD (.str [97, 98]), eTup [eTup [eD (.str [98, 97]), eD (.str [97, 98])]]]], callU c_is_book [false] [eTup [eD (.str [98, 97]), eTup [eTup [eD (.str [98, 97]), eD (.str [97, 98])]]]], callU c_is_book [false] [eTup [eD (.str [98, 97]), eTup [eTup [eD (.str [97, 98]), eD (.str [98, 97])]]]], callU c_is_book [false] [eTup [eD (.str [97, 98]), eTup [eTup [eD (.str [98]), eD (.str [97])]]]], callU c_is_book [false] [eTup [eD (.str [97, 98]), eTup [eTup [eD (.str [97]), eD (.str [])], eTup [eD (.str [98]), eD (.str [])]]]]])
def t5 : List D := [.bl true, .bl false, .bl true, .bl true, .bl true]
theorem s19_ok {o : O} (x2 x3 x4 x5 x6 x7 x8 x9 x10 x11 x12 x13 x14 x15 x16 x17 : Option O) : S19 (rv o L x2 x3 x4 x5 x6 x7 x8 x9 x10 x11 x12 x13 x14 x15 x16 x17) = .ok .nx (rv o L x2 x3 x4 x5 x6 x7 x8 x9 x10 x11 (some (.l (t5.map .s))) x13 x14 x15 x16 x17) := by
  have k : ∀ (M : EM Rs) (x : D), x ∈ bk5 → M (rv o L x2 x3 x4 x5 x6 x7 x8 x9 x10 x11 x12 x13 x14 x15 x16 x17) = .ok (vv x) (rv o L x2 x3 x4 x5 x6 x7 x8 x9 x10 x11 x12 x13 x14 x15 x16 x17) → callU c_is_book [false] [M] (rv o L x2 x3 x4 x5 x6 x7 x8 x9 x10 x11 x12 x13 x14 x15 x16 x17) = .ok (vv (.bl (isB x))) (rv o L x2 x3 x4 x5 x6 x7 x8 x9 x10 x11 x12 x13 x14 x15 x16 x17) := fun M x hx h => isbE h rfl (okVs_mem bk5_okV hx)
  have a := goLP (ds := bk5.map fun x => D.bl (isB x)) (evP (k _ _ (by simp [bk5]) rfl) rfl (evP (k _ (.tup [.str [98, 97], .tup [.tup [.str [98, 97], .str [97, 98]]]]) (by simp [bk5]) rfl) rfl (evP (k _ (.tup [.str [98, 97], .tup [.tup [.str [97, 98], .str [98, 97]]]]) (by simp [bk5]) rfl) rfl (evP (k _ (.tup [.str [97, 98], .tup [.tup [.str [98], .str [97]]]]) (by simp [bk5]) rfl) rfl (evP (k _ (.tup [.str [97, 98], .tup [.tup [.str [97], .str []], .tup [.str [98], .str []]]]) (by simp [bk5]) rfl) rfl evP0)))))
  rw [bk5_is] at a
  exact goA (i := 12) a
def S21 : SM := sRet (callU (c_law_same 8) [false, false] [eVar 12, eVar 9])
theorem s21_ok {o : O} (x2 x3 x4 x5 x6 x7 x8 x9 x10 x11 x12 x13 x14 x15 x16 x17 : Option O) : S21 (rv o L x2 x3 x4 x5 x6 x7 x8 (some (.l (t5.map .s))) x10 x11 (some (.l (t5.map .s))) x13 x14 x15 x16 x17) = .ok (.rt (.s (.bl true))) (rv o L x2 x3 x4 x5 x6 x7 x8 (some (.s (.lst t5))) x10 x11 (some (.s (.lst t5))) x13 x14 x15 x16 x17) :=
  goV (chk (g := .lst t5) (r1 := .nm 12) (r2 := .nm 9) rfl rfl rfl rfl (by decide) (by decide))
end
theorem right_ok {o : O} (t : Tn 0 o) : Ans (c_law_right [o]) (.s (.bl true)) := by
  obtain ⟨L, o1, d, t1, s1⟩ := s1_ok t (by omega)
  obtain ⟨o2, x2, x3, x4, x5, x6, x7, x8, x9, x10, x11, x12, x13, x14, x15, x16, x17, h7, s2⟩ := laps_ok d t1 (by omega)
  have s3 := s17_ok (L := L) (o := o2) x2 x3 x4 x5 x6 x7 x8 x9 x10 x11 x12 x13 x14 x15 x16 x17
  have s4 := s18_ok (L := L) (o := o2) x2 x3 x4 x5 x6 x7 x8 x9 x10 x11 x12 x13 x14 x15 x16 x17 h7
  have s5 := s19_ok (L := L) (o := o2) x2 x3 x4 x5 x6 x7 x8 x9 x10 x11 x12 x13 x14 x15 x16 (some (.s (.lst thg)))
  have s6 : sAsg 9 (eLst [eD (.bl true), eD (.bl false), eD (.bl true), eD (.bl true), eD (.bl true)]) (rv o2 L x2 x3 x4 x5 x6 x7 x8 x9 x10 x11 (some (.l (t5.map .s))) x13 x14 x15 x16 (some (.s (.lst thg)))) = .ok .nx (rv o2 L x2 x3 x4 x5 x6 x7 x8 (some (.l (t5.map .s))) x10 x11 (some (.l (t5.map .s))) x13 x14 x15 x16 (some (.s (.lst thg)))) := rfl
  have s7 := s21_ok (L := L) (o := o2) x2 x3 x4 x5 x6 x7 x8 x9 x10 x11 x12 x13 x14 x15 x16 (some (.s (.lst thg)))
  exact ans (n := 19) (body := b_law_right) (args := [o]) (go s1 (go s2 (go s3 (go s4 (go s5 (go s6 s7))))))
theorem law_true (ns : List Int) (hn : ns.length ≤ 63) : Ans (c_law [.s (.scr (ns.map .int))]) (.s (.bl true)) := by
  obtain ⟨cs, c1, c2, hc⟩ := cells_ok ns hn
  have k0 : callU c_law_cells [false, false] [eVar 0, eD (.int 2)] [some (.s (.scr (ns.map .int))), none, none] = .ok (.v (.s (.lst (cs.map .int)))) [some (.s (.scr (ns.map .int))), none, none] := goUs (evC (r := .nm 0) rfl (evC (r := .v (I 2)) rfl ev0)) rfl (fun _ => rfl) hc
  have s1 := goA (i := 1) k0
  have e0 : rngD 0 cs.length = (List.range cs.length).map fun i : Nat => D.int i := by rw [rng_map]; simp [rngI]
  have c := lcV (k := 2) (e := [some (.s (.scr (ns.map .int))), some (.s (.lst (cs.map .int))), none]) (e1 := [some (.s (.scr (ns.map .int))), some (.s (.lst (cs.map .int))), none]) (it := itR1 (callB fLen [eVar 1])) (elt := callT c_law_right (callU c_law_box [false, false] [eVar 1, eVar 2])) (ds := (List.range cs.length).map fun i : Nat => D.int i) (fun _ => .bl true) (by
    rw [← e0]
    exact goR1 (goB1 (r := .nm 1) rfl rfl rfl) (by simp [look, opnd, frz]) (by simp only [okR, Bool.and_eq_true, decide_eq_true_eq]; omega)) (.inl rfl) (by simp; omega) fun x hx => by
    obtain ⟨j, hj, rfl⟩ := List.mem_map.mp hx
    have hjl := List.mem_range.mp hj
    obtain ⟨o, t, hb⟩ := box_ok hjl (by omega)
    have hR := right_ok t
    have k1 : callU c_law_box [false, false] [eVar 1, eVar 2] [some (.s (.scr (ns.map .int))), some (.s (.lst (cs.map .int))), some (I j)] = .ok (.v o) [some (.s (.scr (ns.map .int))), some (.s (.lst (cs.map .int))), some (I j)] := goUs (evC (r := .nm 1) rfl (evC (r := .nm 2) rfl ev0)) rfl (fun _ => rfl) hb
    exact goCT k1 hR
  have a := all_lc (f := fun _ => true) c
  have ht : ((List.range cs.length).map fun i : Nat => D.int i).all (fun _ => true) = true := by simp
  rw [ht] at a
  exact ans (n := 3) (body := b_law) (args := [.s (.scr (ns.map .int))]) (go s1 (goV a))
end K02
namespace K02
open PySem L2 MI
def d_is_long : He.FnD := ⟨("is_long", none), "is_long", "is_long", defArgs s_is_long, defBody s_is_long, defScope s_is_long⟩
def d_tupled : He.FnD := ⟨("tupled", none), "tupled", "tupled", defArgs s_tupled, defBody s_tupled, defScope s_tupled⟩
def d_is_letters : He.FnD := ⟨("is_letters", none), "is_letters", "is_letters", defArgs s_is_letters, defBody s_is_letters, defScope s_is_letters⟩
def d_is_word_in : He.FnD := ⟨("is_word_in", none), "is_word_in", "is_word_in", defArgs s_is_word_in, defBody s_is_word_in, defScope s_is_word_in⟩
def d_sure_letters : He.FnD := ⟨("sure_letters", none), "sure_letters", "sure_letters", defArgs s_sure_letters, defBody s_sure_letters, defScope s_sure_letters⟩
def d_key_of : He.FnD := ⟨("key_of", none), "key_of", "key_of", defArgs s_key_of, defBody s_key_of, defScope s_key_of⟩
def d_is_ahead : He.FnD := ⟨("is_ahead", none), "is_ahead", "is_ahead", defArgs s_is_ahead, defBody s_is_ahead, defScope s_is_ahead⟩
def d_is_rule : He.FnD := ⟨("is_rule", none), "is_rule", "is_rule", defArgs s_is_rule, defBody s_is_rule, defScope s_is_rule⟩
def d_is_book : He.FnD := ⟨("is_book", none), "is_book", "is_book", defArgs s_is_book, defBody s_is_book, defScope s_is_book⟩
def d_ordered : He.FnD := ⟨("ordered", none), "ordered", "ordered", defArgs s_ordered, defBody s_ordered, defScope s_ordered⟩
def d_turned_rule : He.FnD := ⟨("turned_rule", none), "turned_rule", "turned_rule", defArgs s_turned_rule, defBody s_turned_rule, defScope s_turned_rule⟩
def d_book_of : He.FnD := ⟨("book_of", none), "book_of", "book_of", defArgs s_book_of, defBody s_book_of, defScope s_book_of⟩
def d_law_box : He.FnD := ⟨("_law_box", none), "_law_box", "_law_box", defArgs s_law_box, defBody s_law_box, defScope s_law_box⟩
def d_law_take : He.FnD := ⟨("_law_take", none), "_law_take", "_law_take", defArgs s_law_take, defBody s_law_take, defScope s_law_take⟩
def d_law_cells : He.FnD := ⟨("_law_cells", none), "_law_cells", "_law_cells", defArgs s_law_cells, defBody s_law_cells, defScope s_law_cells⟩
def d_law_of : He.FnD := ⟨("_law_of", none), "_law_of", "_law_of", defArgs s_law_of, defBody s_law_of, defScope s_law_of⟩
def d_law_pick : He.FnD := ⟨("_law_pick", none), "_law_pick", "_law_pick", defArgs s_law_pick, defBody s_law_pick, defScope s_law_pick⟩
def d_law_mixed : He.FnD := ⟨("_law_mixed", none), "_law_mixed", "_law_mixed", defArgs s_law_mixed, defBody s_law_mixed, defScope s_law_mixed⟩
def d_law_same : He.FnD := ⟨("_law_same", none), "_law_same", "_law_same", defArgs s_law_same, defBody s_law_same, defScope s_law_same⟩
def d_law_unmarked : He.FnD := ⟨("_law_unmarked", none), "_law_unmarked", "_law_unmarked", defArgs s_law_unmarked, defBody s_law_unmarked, defScope s_law_unmarked⟩
def d_law_ahead : He.FnD := ⟨("_law_ahead", none), "_law_ahead", "_law_ahead", defArgs s_law_ahead, defBody s_law_ahead, defScope s_law_ahead⟩
def d_law_ordered : He.FnD := ⟨("_law_ordered", none), "_law_ordered", "_law_ordered", defArgs s_law_ordered, defBody s_law_ordered, defScope s_law_ordered⟩
def d_law_some_word : He.FnD := ⟨("_law_some_word", none), "_law_some_word", "_law_some_word", defArgs s_law_some_word, defBody s_law_some_word, defScope s_law_some_word⟩
def d_law_heard : He.FnD := ⟨("_law_heard", none), "_law_heard", "_law_heard", defArgs s_law_heard, defBody s_law_heard, defScope s_law_heard⟩
def d_law_right : He.FnD := ⟨("_law_right", none), "_law_right", "_law_right", defArgs s_law_right, defBody s_law_right, defScope s_law_right⟩
def d_law : He.FnD := ⟨("law", none), "law", "law", defArgs s_law, defBody s_law, defScope s_law⟩
def fn : List He.FnD := [d_is_long, d_tupled, d_is_letters, d_is_word_in, d_sure_letters, d_key_of, d_is_ahead, d_is_rule, d_is_book, d_ordered, d_turned_rule, d_book_of, d_law_box, d_law_take, d_law_cells, d_law_of, d_law_pick, d_law_mixed, d_law_same, d_law_unmarked, d_law_ahead, d_law_ordered, d_law_some_word, d_law_heard, d_law_right, d_law]
def fa0 : List He.Fa := [.glo "is_long", .keep "is_long", .glo "tupled", .keep "tupled", .glo "is_letters", .keep "is_letters", .glo "is_word_in", .keep "is_word_in", .glo "sure_letters", .keep "sure_letters", .glo "key_of", .keep "key_of", .glo "is_ahead", .keep "is_ahead", .glo "is_rule", .keep "is_rule", .glo "is_book", .keep "is_book", .glo "ordered", .keep "ordered", .glo "turned_rule", .keep "turned_rule", .glo "book_of", .keep "book_of", .glo "_law_box", .keep "_law_box", .glo "_law_take", .keep "_law_take", .glo "_law_cells", .keep "_law_cells"]
def fa1 : List He.Fa := [.glo "_law_of", .keep "_law_of", .glo "_law_pick", .keep "_law_pick", .glo "_law_mixed", .keep "_law_mixed", .glo "_law_same", .keep "_law_same", .glo "_law_unmarked", .keep "_law_unmarked", .glo "_law_ahead", .keep "_law_ahead", .glo "_law_ordered", .keep "_law_ordered", .glo "_law_some_word", .keep "_law_some_word", .glo "_law_heard", .keep "_law_heard", .glo "_law_right", .keep "_law_right", .glo "law", .keep "law", .free "ValueError", .free "abs", .free "all", .free "bool", .free "enumerate", .free "int", .free "isinstance", .free "len"]
def fa2 : List He.Fa := [.free "list", .free "min", .free "range", .free "set", .free "sorted", .free "str", .free "tuple", .free "zip", .str "SMALL" ⟨k_SMALL.toArray⟩, .exc "CanNot", .glo "CanNot", .exc "Unfit", .glo "Unfit", .exm "CanNot" "CanNot" true, .exm "Unfit" "CanNot" false]
def fa : List He.Fa := fa0 ++ fa1 ++ fa2
def ex : List Str := ["CanNot"]
def loose0 : List PySem.Str := ["is_long", "tupled", "is_letters", "is_word_in", "sure_letters", "key_of", "is_ahead", "is_rule", "is_book", "ordered", "turned_rule", "book_of", "_law_box", "_law_take", "_law_cells", "_law_of", "_law_pick", "_law_mixed", "_law_same", "_law_unmarked", "_law_ahead", "_law_ordered", "_law_some_word", "_law_heard", "_law_right", "SMALL", "CanNot", "Unfit"]
def loose : List PySem.Str := loose0
abbrev R : PySem.W.OpenRow := PySem.W.OpenLaw.row PySem.Challenge.rw_overlapladders_k02_whole_books
abbrev hk : PySem.W.Hook := hookM 5 fa fn ex
def ob (s : PySem.W.SharedT) : Bool × He.Al := obsMG 5 fa fn ex (HandSHeadRun.getT s)
theorem ob_eq (s : PySem.W.SharedT) : ob s = hk.obs s.abs := obsMG_eq (HandSHeadRun.getT_eq s)
theorem run (w : World) : HandSHeadRun.RunEq R (PySem.W.view R.prog [33]) hk ob 2440 loose w := by
  intro os
  kernel_rfl
theorem txOf {K : PySem.W.Frag} {h : Heap} {mg : Str → Option Value} (X : K.In h) (G : h.Ns mainGlobals mg) (c : SaysM fa fn ex K) : Tx K mg where
  f_is_long := by
    obtain ⟨oc, od, osl, kV, doc, pm, an, cdv, ct, l, cc⟩ := c.1.def_ 0 (d := d_is_long) rfl
    exact ⟨_, fun_mk l cc (He.keep_ok (c.1.fact 1 (f := .keep "is_long") rfl))⟩
  g_is_long := He.glo_ok X G (c.1.fact 0 (f := .glo "is_long") rfl)
  f_tupled := by
    obtain ⟨oc, od, osl, kV, doc, pm, an, cdv, ct, l, cc⟩ := c.1.def_ 1 (d := d_tupled) rfl
    exact ⟨_, fun_mk l cc (He.keep_ok (c.1.fact 3 (f := .keep "tupled") rfl))⟩
  g_tupled := He.glo_ok X G (c.1.fact 2 (f := .glo "tupled") rfl)
  f_is_letters := by
    obtain ⟨oc, od, osl, kV, doc, pm, an, cdv, ct, l, cc⟩ := c.1.def_ 2 (d := d_is_letters) rfl
    exact ⟨_, fun_mk l cc (He.keep_ok (c.1.fact 5 (f := .keep "is_letters") rfl))⟩
  g_is_letters := He.glo_ok X G (c.1.fact 4 (f := .glo "is_letters") rfl)
  f_is_word_in := by
    obtain ⟨oc, od, osl, kV, doc, pm, an, cdv, ct, l, cc⟩ := c.1.def_ 3 (d := d_is_word_in) rfl
    exact ⟨_, fun_mk l cc (He.keep_ok (c.1.fact 7 (f := .keep "is_word_in") rfl))⟩
  g_is_word_in := He.glo_ok X G (c.1.fact 6 (f := .glo "is_word_in") rfl)
  f_sure_letters := by
    obtain ⟨oc, od, osl, kV, doc, pm, an, cdv, ct, l, cc⟩ := c.1.def_ 4 (d := d_sure_letters) rfl
    exact ⟨_, fun_mk l cc (He.keep_ok (c.1.fact 9 (f := .keep "sure_letters") rfl))⟩
  g_sure_letters := He.glo_ok X G (c.1.fact 8 (f := .glo "sure_letters") rfl)
  f_key_of := by
    obtain ⟨oc, od, osl, kV, doc, pm, an, cdv, ct, l, cc⟩ := c.1.def_ 5 (d := d_key_of) rfl
    exact ⟨_, fun_mk l cc (He.keep_ok (c.1.fact 11 (f := .keep "key_of") rfl))⟩
  g_key_of := He.glo_ok X G (c.1.fact 10 (f := .glo "key_of") rfl)
  f_is_ahead := by
    obtain ⟨oc, od, osl, kV, doc, pm, an, cdv, ct, l, cc⟩ := c.1.def_ 6 (d := d_is_ahead) rfl
    exact ⟨_, fun_mk l cc (He.keep_ok (c.1.fact 13 (f := .keep "is_ahead") rfl))⟩
  g_is_ahead := He.glo_ok X G (c.1.fact 12 (f := .glo "is_ahead") rfl)
  f_is_rule := by
    obtain ⟨oc, od, osl, kV, doc, pm, an, cdv, ct, l, cc⟩ := c.1.def_ 7 (d := d_is_rule) rfl
    exact ⟨_, fun_mk l cc (He.keep_ok (c.1.fact 15 (f := .keep "is_rule") rfl))⟩
  g_is_rule := He.glo_ok X G (c.1.fact 14 (f := .glo "is_rule") rfl)
  f_is_book := by
    obtain ⟨oc, od, osl, kV, doc, pm, an, cdv, ct, l, cc⟩ := c.1.def_ 8 (d := d_is_book) rfl
    exact ⟨_, fun_mk l cc (He.keep_ok (c.1.fact 17 (f := .keep "is_book") rfl))⟩
  g_is_book := He.glo_ok X G (c.1.fact 16 (f := .glo "is_book") rfl)
  f_ordered := by
    obtain ⟨oc, od, osl, kV, doc, pm, an, cdv, ct, l, cc⟩ := c.1.def_ 9 (d := d_ordered) rfl
    exact ⟨_, fun_mk l cc (He.keep_ok (c.1.fact 19 (f := .keep "ordered") rfl))⟩
  g_ordered := He.glo_ok X G (c.1.fact 18 (f := .glo "ordered") rfl)
  f_turned_rule := by
    obtain ⟨oc, od, osl, kV, doc, pm, an, cdv, ct, l, cc⟩ := c.1.def_ 10 (d := d_turned_rule) rfl
    exact ⟨_, fun_mk l cc (He.keep_ok (c.1.fact 21 (f := .keep "turned_rule") rfl))⟩
  g_turned_rule := He.glo_ok X G (c.1.fact 20 (f := .glo "turned_rule") rfl)
  f_book_of := by
    obtain ⟨oc, od, osl, kV, doc, pm, an, cdv, ct, l, cc⟩ := c.1.def_ 11 (d := d_book_of) rfl
    exact ⟨_, fun_mk l cc (He.keep_ok (c.1.fact 23 (f := .keep "book_of") rfl))⟩
  g_book_of := He.glo_ok X G (c.1.fact 22 (f := .glo "book_of") rfl)
  f_law_box := by
    obtain ⟨oc, od, osl, kV, doc, pm, an, cdv, ct, l, cc⟩ := c.1.def_ 12 (d := d_law_box) rfl
    exact ⟨_, fun_mk l cc (He.keep_ok (c.1.fact 25 (f := .keep "_law_box") rfl))⟩
  g_law_box := He.glo_ok X G (c.1.fact 24 (f := .glo "_law_box") rfl)
  f_law_take := by
    obtain ⟨oc, od, osl, kV, doc, pm, an, cdv, ct, l, cc⟩ := c.1.def_ 13 (d := d_law_take) rfl
    exact ⟨_, fun_mk l cc (He.keep_ok (c.1.fact 27 (f := .keep "_law_take") rfl))⟩
  g_law_take := He.glo_ok X G (c.1.fact 26 (f := .glo "_law_take") rfl)
  f_law_cells := by
    obtain ⟨oc, od, osl, kV, doc, pm, an, cdv, ct, l, cc⟩ := c.1.def_ 14 (d := d_law_cells) rfl
    exact ⟨_, fun_mk l cc (He.keep_ok (c.1.fact 29 (f := .keep "_law_cells") rfl))⟩
  g_law_cells := He.glo_ok X G (c.1.fact 28 (f := .glo "_law_cells") rfl)
  f_law_of := by
    obtain ⟨oc, od, osl, kV, doc, pm, an, cdv, ct, l, cc⟩ := c.1.def_ 15 (d := d_law_of) rfl
    exact ⟨_, fun_mk l cc (He.keep_ok (c.1.fact 31 (f := .keep "_law_of") rfl))⟩
  g_law_of := He.glo_ok X G (c.1.fact 30 (f := .glo "_law_of") rfl)
  f_law_pick := by
    obtain ⟨oc, od, osl, kV, doc, pm, an, cdv, ct, l, cc⟩ := c.1.def_ 16 (d := d_law_pick) rfl
    exact ⟨_, fun_mk l cc (He.keep_ok (c.1.fact 33 (f := .keep "_law_pick") rfl))⟩
  g_law_pick := He.glo_ok X G (c.1.fact 32 (f := .glo "_law_pick") rfl)
  f_law_mixed := by
    obtain ⟨oc, od, osl, kV, doc, pm, an, cdv, ct, l, cc⟩ := c.1.def_ 17 (d := d_law_mixed) rfl
    exact ⟨_, fun_mk l cc (He.keep_ok (c.1.fact 35 (f := .keep "_law_mixed") rfl))⟩
  g_law_mixed := He.glo_ok X G (c.1.fact 34 (f := .glo "_law_mixed") rfl)
  f_law_same := by
    obtain ⟨oc, od, osl, kV, doc, pm, an, cdv, ct, l, cc⟩ := c.1.def_ 18 (d := d_law_same) rfl
    exact ⟨_, fun_mk l cc (He.keep_ok (c.1.fact 37 (f := .keep "_law_same") rfl))⟩
  g_law_same := He.glo_ok X G (c.1.fact 36 (f := .glo "_law_same") rfl)
  f_law_unmarked := by
    obtain ⟨oc, od, osl, kV, doc, pm, an, cdv, ct, l, cc⟩ := c.1.def_ 19 (d := d_law_unmarked) rfl
    exact ⟨_, fun_mk l cc (He.keep_ok (c.1.fact 39 (f := .keep "_law_unmarked") rfl))⟩
  g_law_unmarked := He.glo_ok X G (c.1.fact 38 (f := .glo "_law_unmarked") rfl)
  f_law_ahead := by
    obtain ⟨oc, od, osl, kV, doc, pm, an, cdv, ct, l, cc⟩ := c.1.def_ 20 (d := d_law_ahead) rfl
    exact ⟨_, fun_mk l cc (He.keep_ok (c.1.fact 41 (f := .keep "_law_ahead") rfl))⟩
  g_law_ahead := He.glo_ok X G (c.1.fact 40 (f := .glo "_law_ahead") rfl)
  f_law_ordered := by
    obtain ⟨oc, od, osl, kV, doc, pm, an, cdv, ct, l, cc⟩ := c.1.def_ 21 (d := d_law_ordered) rfl
    exact ⟨_, fun_mk l cc (He.keep_ok (c.1.fact 43 (f := .keep "_law_ordered") rfl))⟩
  g_law_ordered := He.glo_ok X G (c.1.fact 42 (f := .glo "_law_ordered") rfl)
  f_law_some_word := by
    obtain ⟨oc, od, osl, kV, doc, pm, an, cdv, ct, l, cc⟩ := c.1.def_ 22 (d := d_law_some_word) rfl
    exact ⟨_, fun_mk l cc (He.keep_ok (c.1.fact 45 (f := .keep "_law_some_word") rfl))⟩
  g_law_some_word := He.glo_ok X G (c.1.fact 44 (f := .glo "_law_some_word") rfl)
  f_law_heard := by
    obtain ⟨oc, od, osl, kV, doc, pm, an, cdv, ct, l, cc⟩ := c.1.def_ 23 (d := d_law_heard) rfl
    exact ⟨_, fun_mk l cc (He.keep_ok (c.1.fact 47 (f := .keep "_law_heard") rfl))⟩
  g_law_heard := He.glo_ok X G (c.1.fact 46 (f := .glo "_law_heard") rfl)
  f_law_right := by
    obtain ⟨oc, od, osl, kV, doc, pm, an, cdv, ct, l, cc⟩ := c.1.def_ 24 (d := d_law_right) rfl
    exact ⟨_, fun_mk l cc (He.keep_ok (c.1.fact 49 (f := .keep "_law_right") rfl))⟩
  g_law_right := He.glo_ok X G (c.1.fact 48 (f := .glo "_law_right") rfl)
  f_law := by
    obtain ⟨oc, od, osl, kV, doc, pm, an, cdv, ct, l, cc⟩ := c.1.def_ 25 (d := d_law) rfl
    exact ⟨_, fun_mk l cc (He.keep_ok (c.1.fact 51 (f := .keep "law") rfl))⟩
  g_law := He.glo_ok X G (c.1.fact 50 (f := .glo "law") rfl)
  n_ValueError := He.free_ok X G (c.1.fact 52 (f := .free "ValueError") rfl)
  n_abs := He.free_ok X G (c.1.fact 53 (f := .free "abs") rfl)
  n_all := He.free_ok X G (c.1.fact 54 (f := .free "all") rfl)
  n_bool := He.free_ok X G (c.1.fact 55 (f := .free "bool") rfl)
  n_enumerate := He.free_ok X G (c.1.fact 56 (f := .free "enumerate") rfl)
  n_int := He.free_ok X G (c.1.fact 57 (f := .free "int") rfl)
  n_isinstance := He.free_ok X G (c.1.fact 58 (f := .free "isinstance") rfl)
  n_len := He.free_ok X G (c.1.fact 59 (f := .free "len") rfl)
  n_list := He.free_ok X G (c.1.fact 60 (f := .free "list") rfl)
  n_min := He.free_ok X G (c.1.fact 61 (f := .free "min") rfl)
  n_range := He.free_ok X G (c.1.fact 62 (f := .free "range") rfl)
  n_set := He.free_ok X G (c.1.fact 63 (f := .free "set") rfl)
  n_sorted := He.free_ok X G (c.1.fact 64 (f := .free "sorted") rfl)
  n_str := He.free_ok X G (c.1.fact 65 (f := .free "str") rfl)
  n_tuple := He.free_ok X G (c.1.fact 66 (f := .free "tuple") rfl)
  n_zip := He.free_ok X G (c.1.fact 67 (f := .free "zip") rfl)
  c_SMALL := He.str_ok X G (c.1.fact 68 (f := .str "SMALL" ⟨k_SMALL.toArray⟩) rfl)
  x_CanNot := xf_of X G (c.1.fact 69 (f := .exc "CanNot") rfl) (He.glo_ok X G (c.1.fact 70 (f := .glo "CanNot") rfl)) rfl
  exm_CanNot := fun c' hc => by
    rcases (show c' = 0 ∨ c' = 1 from by omega) with rfl | rfl
    · exact He.exm_ok (c.1.fact 73 (f := .exm "CanNot" "CanNot" true) rfl)
    · exact He.exm_ok (c.1.fact 74 (f := .exm "Unfit" "CanNot" false) rfl)
  ec_CanNot := (c.2 "CanNot" (by decide)).1
  ev_CanNot := (c.2 "CanNot" (by decide)).2
  x_Unfit := xf_of X G (c.1.fact 71 (f := .exc "Unfit") rfl) (He.glo_ok X G (c.1.fact 72 (f := .glo "Unfit") rfl)) rfl
end K02
open PySem PySem.W PySem.Calls PyProof.Rows
set_option maxHeartbeats 0 in
theorem PySem.Challenge.cw_overlapladders_k02_whole_books_holds : PySem.Challenge.rw_overlapladders_k02_whole_books.Holds := by
  w_on; o_law
  refine HandSHeadRun.head_any (r := OpenLaw.row PySem.Challenge.rw_overlapladders_k02_whole_books) (q := view (OpenLaw.row PySem.Challenge.rw_overlapladders_k02_whole_books).prog [33]) (H := K02.hk) (ob := K02.ob) (M := 2440) (loose := K02.loose) (d := HandSHeadRun.topDef (OpenLaw.row PySem.Challenge.rw_overlapladders_k02_whole_books).prog 33) (kwd := []) K02.ob_eq
    (by kernel_rfl) (fun s => by kernel_rfl) K02.run (by kernel_rfl) (by kernel_rfl) (by kernel_rfl) (by rfl) (by first | assumption | decide +kernel) (by decide +kernel) ⟨rfl, rfl, rfl, rfl, rfl, by decide +kernel⟩ ?hw ?hc
  case hw => w_witness2
  case hc =>
    refine MI.walk_ofM (l := PySem.Challenge.rw_overlapladders_k02_whole_books) (k := 13) (P := PySem.Challenge.pw_overlapladders_k02_whole_books) rfl rfl (by kernel_rfl) ⟨rfl, by decide, by decide⟩ ?F
    intro w mg fa h Y G hmg0
    obtain ⟨K, KX, c⟩ := Y
    have hmg : mg ("law" : PySem.Str) = some (.ref fa) := by
      have e : (HandSHeadRun.topDef (OpenLaw.row PySem.Challenge.rw_overlapladders_k02_whole_books).prog 33).name = ("law" : PySem.Str) := by kernel_rfl
      rw [← e]
      exact hmg0
    have T := K02.txOf KX G c
    have e := hmg.symm.trans T.g_law
    cases e
    obtain ⟨fd, F, hb⟩ := K02.ff_law (P := PySem.Challenge.pw_overlapladders_k02_whole_books) (w := w) T
    exact ⟨K, fd, MI.spM K (K02.cxK K) [false] K02.c_law, KX, hb, MI.sp_law K02.law_true, fun base => (F base).ok⟩
