import PyProof.Rows.All
import Wide.All
import OpenK.AllK
import Wide.FinOn
import KE.KStateDown
import Lean
import HandS.Base
import HandS.Call
import HandS.Ends
import HandS.More
import HandS.Words
import HandS.WordsExc
import HandS.Defaults
import HandS.Head0
import HandS.Head1
import HandS.Head2
import HandS.Head3
import HandS.HeadEnd
import HandS.HeadHook1
import HandS.HeadHook2
import HandS.HeadHook4
import HandS.ForMost
import HandS.ForExc
import HandS.Wide
import HandS.Gcd
import HandS.Conv
import HandS.IsInst
import HandS.Zip
import HandS.GenOver
import PyProof.GenQ
import HandS.GenCall
import HandS.GenYield
import HandS.GenList
import HandS.Walk
import HandS.TupAny
import HandS.MakeKw
import HandS.MakeKwOnly
import KE.GoesEnum
import HandS.WideBits
import PySem.Challenge.RW_onlyprices_k08_kernel_row_whole
set_option Elab.async false
set_option linter.all false
set_option maxRecDepth 100000
set_option maxHeartbeats 0
/-! Trees: what a Python value is worth, without addresses. -/
namespace PT
open PySem PySem.Spec PyProof.Rows L2

/-- a value as a tree -/
inductive T where
  | non | bl (b : Bool) | int (i : Int) | str (x : Str)
  | tup (xs : List T) | lst (xs : List T)
  | scr (ns : List Int)
  | ins (C : Str) (ns : List Str) (xs : List T)

abbrev gaC (K : PySem.W.Frag) (C : Str) : Addr := He.ga K C
/-- what is known of an own class: its instances' fields are plain, isinstance against what is built in -/
structure ClsOk (K : PySem.W.Frag) (C : Str) (ns : List Str) : Prop where
  cls : Cls K (gaC K C)
  no : ∀ f ∈ ns, NoAttr K (gaC K C) f
  ca : PySem.W.findIn K (.ref (gaC K C)) "__class__" = some (some (.builtin "object.__class__"))
  cg : PySem.W.specialIn K (.builtin "object.__class__") "__get__" = some (some (.builtin "getset_descriptor.__get__"))
  ct : PySem.W.takesIn K (.builtin "object.__class__") = some true
  cm : PySem.W.mroIn K (gaC K C) (.type "object") = some true
  kb : ∀ t ∈ ["int", "bool", "str", "list", "tuple"], PySem.W.kitOne K (.ref (gaC K C)) (.type t) = some false
section
variable (K : PySem.W.Frag) (H : Hp)
mutual
def Rep : T → V → Prop
  | .non, v => v = .non
  | .bl b, v => v = .bl b
  | .int i, v => v = .int i
  | .str x, v => v = .str x
  | .tup ts, v => ∃ a vs, v = .ref a ∧ SqT K H a vs ∧ Reps ts vs
  | .lst ts, v => ∃ a vs, v = .ref a ∧ H a = some (.lst vs) ∧ Reps ts vs
  | .scr ns, v => ∃ a, v = .ref a ∧ SqL K H a (ns.map V.int)
  | .ins C ns ts, v => ∃ a dx vs, v = .ref a ∧ H a = some (.ins (gaC K C) dx (ns.zip vs)) ∧ ns.length = vs.length ∧ ClsOk K C ns ∧ Reps ts vs
def Reps : List T → List V → Prop
  | [], vs => vs = []
  | t :: ts, vs => ∃ v r, vs = v :: r ∧ Rep t v ∧ Reps ts r
end
end

theorem sqL_mono {K : PySem.W.Frag} {H H' : Hp} {a : Addr} {xs : List V} (e : Same H H') (h : SqL K H a xs) : SqL K H' a xs := by
  rcases h with (h | ⟨o, h⟩) | h
  · exact .inl (.inl (e _ _ h))
  · exact .inl (.inr ⟨o, e _ _ h⟩)
  · exact .inr h
theorem sqT_mono {K : PySem.W.Frag} {H H' : Hp} {a : Addr} {xs : List V} (e : Same H H') (h : SqT K H a xs) : SqT K H' a xs := by
  rcases h with (h | ⟨o, h⟩) | h
  · exact .inl (.inl (e _ _ h))
  · exact .inl (.inr ⟨o, e _ _ h⟩)
  · exact .inr h
mutual
theorem rep_mono {K : PySem.W.Frag} {H H' : Hp} (e : Same H H') : ∀ (t : T) (v : V), Rep K H t v → Rep K H' t v
  | .non, v, h => h
  | .bl b, v, h => h
  | .int i, v, h => h
  | .str x, v, h => h
  | .tup ts, v, h => by
    unfold Rep at h ⊢
    obtain ⟨a, vs, e1, e2, e3⟩ := h
    exact ⟨a, vs, e1, sqT_mono e e2, reps_mono e ts vs e3⟩
  | .lst ts, v, h => by
    unfold Rep at h ⊢
    obtain ⟨a, vs, e1, e2, e3⟩ := h
    exact ⟨a, vs, e1, e _ _ e2, reps_mono e ts vs e3⟩
  | .scr ns, v, h => by
    unfold Rep at h ⊢
    obtain ⟨a, e1, e2⟩ := h
    exact ⟨a, e1, sqL_mono e e2⟩
  | .ins C ns ts, v, h => by
    unfold Rep at h ⊢
    obtain ⟨a, dx, vs, e1, e2, e4, e5, e3⟩ := h
    exact ⟨a, dx, vs, e1, e _ _ e2, e4, e5, reps_mono e ts vs e3⟩
theorem reps_mono {K : PySem.W.Frag} {H H' : Hp} (e : Same H H') : ∀ (ts : List T) (vs : List V), Reps K H ts vs → Reps K H' ts vs
  | [], vs, h => h
  | t :: ts, vs, h => by
    unfold Reps at h ⊢
    obtain ⟨v, r, e1, e2, e3⟩ := h
    exact ⟨v, r, e1, rep_mono e t v e2, reps_mono e ts r e3⟩
end
theorem reps_len {K : PySem.W.Frag} {H : Hp} : ∀ {ts : List T} {vs : List V}, Reps K H ts vs → vs.length = ts.length
  | [], vs, h => by
    unfold Reps at h
    subst h
    rfl
  | t :: ts, vs, h => by
    unfold Reps at h
    obtain ⟨v, r, e1, e2, e3⟩ := h
    subst e1
    simp [reps_len e3]
theorem reps_get {K : PySem.W.Frag} {H : Hp} : ∀ {ts : List T} {vs : List V} {i : Nat} {t : T}, Reps K H ts vs → ts[i]? = some t → ∃ v, vs[i]? = some v ∧ Rep K H t v
  | [], _, _, _, _, h => by simp at h
  | t :: ts, vs, i, t', h, hi => by
    unfold Reps at h
    obtain ⟨v, r, e1, e2, e3⟩ := h
    subst e1
    cases i with
    | zero =>
      have e : t = t' := by simpa using hi
      subst e
      exact ⟨v, rfl, e2⟩
    | succ i =>
      obtain ⟨w, a, b⟩ := reps_get (i := i) e3 (by simpa using hi)
      exact ⟨w, by simpa using a, b⟩
theorem reps_get' {K : PySem.W.Frag} {H : Hp} {ts : List T} {vs : List V} {i : Nat} {v : V} (h : Reps K H ts vs) (hi : vs[i]? = some v) : ∃ t, ts[i]? = some t ∧ Rep K H t v := by
  have hl := reps_len h
  have h1 : i < ts.length := by
    have := (List.getElem?_eq_some_iff.mp hi).1
    omega
  obtain ⟨w, a, b⟩ := reps_get (i := i) h (List.getElem?_eq_getElem h1)
  rw [hi] at a
  cases a
  exact ⟨_, List.getElem?_eq_getElem h1, b⟩
theorem reps_append {K : PySem.W.Frag} {H : Hp} : ∀ {ts us : List T} {vs ws : List V}, Reps K H ts vs → Reps K H us ws → Reps K H (ts ++ us) (vs ++ ws)
  | [], us, vs, ws, h, h' => by
    unfold Reps at h
    subst h
    exact h'
  | t :: ts, us, vs, ws, h, h' => by
    unfold Reps at h
    obtain ⟨v, r, e1, e2, e3⟩ := h
    subst e1
    show Reps K H (t :: (ts ++ us)) (v :: (r ++ ws))
    unfold Reps
    exact ⟨v, _, rfl, e2, reps_append e3 h'⟩
theorem reps_cons {K : PySem.W.Frag} {H : Hp} {t : T} {ts : List T} {v : V} {vs : List V} (a : Rep K H t v) (b : Reps K H ts vs) : Reps K H (t :: ts) (v :: vs) := by
  unfold Reps
  exact ⟨v, vs, rfl, a, b⟩
theorem reps_nil {K : PySem.W.Frag} {H : Hp} : Reps K H [] [] := by
  unfold Reps
  rfl
theorem reps_take {K : PySem.W.Frag} {H : Hp} : ∀ {ts : List T} {vs : List V} (n : Nat), Reps K H ts vs → Reps K H (ts.take n) (vs.take n)
  | ts, vs, 0, h => by simpa using reps_nil
  | [], vs, n + 1, h => by
    unfold Reps at h
    subst h
    simpa using reps_nil
  | t :: ts, vs, n + 1, h => by
    unfold Reps at h
    obtain ⟨v, r, e1, e2, e3⟩ := h
    subst e1
    exact reps_cons e2 (reps_take n e3)
theorem reps_drop {K : PySem.W.Frag} {H : Hp} : ∀ {ts : List T} {vs : List V} (n : Nat), Reps K H ts vs → Reps K H (ts.drop n) (vs.drop n)
  | ts, vs, 0, h => by simpa using h
  | [], vs, n + 1, h => by
    unfold Reps at h
    subst h
    simpa using reps_nil
  | t :: ts, vs, n + 1, h => by
    unfold Reps at h
    obtain ⟨v, r, e1, e2, e3⟩ := h
    subst e1
    exact reps_drop n e3

/-! ### lists of one's own -/
def Owns (P : T → V → List Addr → Prop) : List T → List V → List Addr → Prop
  | [], vs, fp => vs = [] ∧ fp = []
  | t :: ts, vs, fp => ∃ v r f1 f2, vs = v :: r ∧ fp = f1 ++ f2 ∧ P t v f1 ∧ Owns P ts r f2
/-- the tree t is read at v; lists down to the depth d are one's own (in H, at fp), all else is frozen (in H0) -/
def Own (K : PySem.W.Frag) (H0 H : Hp) : Nat → T → V → List Addr → Prop
  | 0, t, v, fp => fp = [] ∧ Rep K H0 t v
  | d + 1, .lst ts, v, fp => ∃ a vs f, v = .ref a ∧ H a = some (.lst vs) ∧ fp = a :: f ∧ Owns (Own K H0 H d) ts vs f
  | _ + 1, t, v, fp => fp = [] ∧ Rep K H0 t v

theorem Owns.imp {P P' : T → V → List Addr → Prop} : ∀ {ts : List T} {vs : List V} {fp : List Addr}, Owns P ts vs fp → (∀ t v f, (∀ a ∈ f, a ∈ fp) → P t v f → P' t v f) → Owns P' ts vs fp
  | [], _, _, h, _ => h
  | t :: ts, vs, fp, h, k => by
    obtain ⟨v, r, f1, f2, e1, e2, p, o⟩ := h
    subst e2
    exact ⟨v, r, f1, f2, e1, rfl, k t v f1 (fun a ha => List.mem_append_left _ ha) p, Owns.imp o fun t v f hf => k t v f fun a ha => List.mem_append_right _ (hf a ha)⟩
theorem Owns.len {P : T → V → List Addr → Prop} : ∀ {ts : List T} {vs : List V} {fp : List Addr}, Owns P ts vs fp → vs.length = ts.length
  | [], _, _, h => by
    rw [h.1]
    rfl
  | t :: ts, vs, fp, h => by
    obtain ⟨v, r, f1, f2, e1, e2, p, o⟩ := h
    subst e1
    simp [Owns.len o]
theorem Owns.reps {K : PySem.W.Frag} {H : Hp} {P : T → V → List Addr → Prop} : ∀ {ts : List T} {vs : List V} {fp : List Addr}, Owns P ts vs fp → (∀ t v f, (∀ a ∈ f, a ∈ fp) → P t v f → Rep K H t v) → Reps K H ts vs
  | [], _, _, h, _ => by
    unfold Reps
    exact h.1
  | t :: ts, vs, fp, h, k => by
    obtain ⟨v, r, f1, f2, e1, e2, p, o⟩ := h
    subst e2
    unfold Reps
    exact ⟨v, r, e1, k t v f1 (fun a ha => List.mem_append_left _ ha) p, Owns.reps o fun t v f hf => k t v f fun a ha => List.mem_append_right _ (hf a ha)⟩
theorem Owns.of_reps {K : PySem.W.Frag} {H : Hp} {P : T → V → List Addr → Prop} : ∀ {ts : List T} {vs : List V}, Reps K H ts vs → (∀ t v, Rep K H t v → t ∈ ts → P t v []) → Owns P ts vs []
  | [], vs, h, _ => by
    unfold Reps at h
    exact ⟨h, rfl⟩
  | t :: ts, vs, h, k => by
    unfold Reps at h
    obtain ⟨v, r, e1, e2, e3⟩ := h
    exact ⟨v, r, [], [], e1, rfl, k t v e2 List.mem_cons_self, Owns.of_reps e3 fun t v h hm => k t v h (List.mem_cons_of_mem _ hm)⟩
theorem Owns.append {P : T → V → List Addr → Prop} : ∀ {ts us : List T} {vs ws : List V} {f g : List Addr}, Owns P ts vs f → Owns P us ws g → Owns P (ts ++ us) (vs ++ ws) (f ++ g)
  | [], us, vs, ws, f, g, h, h' => by
    obtain ⟨e1, e2⟩ := h
    subst e1 e2
    exact h'
  | t :: ts, us, vs, ws, f, g, h, h' => by
    obtain ⟨v, r, f1, f2, e1, e2, p, o⟩ := h
    subst e1 e2
    exact ⟨v, r ++ ws, f1, f2 ++ g, rfl, by rw [List.append_assoc], p, Owns.append o h'⟩
theorem Owns.get {P : T → V → List Addr → Prop} : ∀ {ts : List T} {vs : List V} {fp : List Addr} {i : Nat} {t : T}, Owns P ts vs fp → ts[i]? = some t → ∃ v f, vs[i]? = some v ∧ P t v f ∧ ∀ a ∈ f, a ∈ fp
  | [], _, _, _, _, _, h => by simp at h
  | t :: ts, vs, fp, i, t', h, hi => by
    obtain ⟨v, r, f1, f2, e1, e2, p, o⟩ := h
    subst e1 e2
    cases i with
    | zero =>
      have e : t = t' := by simpa using hi
      subst e
      exact ⟨v, f1, rfl, p, fun a ha => List.mem_append_left _ ha⟩
    | succ i =>
      obtain ⟨w, f, a, b, c⟩ := Owns.get (i := i) o (by simpa using hi)
      exact ⟨w, f, by simpa using a, b, fun x hx => List.mem_append_right _ (c x hx)⟩
/-- one item replaced: the footprint loses that item's and gains the new one's -/
theorem Owns.set {P : T → V → List Addr → Prop} : ∀ {ts : List T} {vs : List V} {fp : List Addr} {i : Nat} {t t' : T} {v' : V} {f' : List Addr}, Owns P ts vs fp → ts[i]? = some t → P t' v' f' → ∃ v g1 g g2, vs[i]? = some v ∧ fp = g1 ++ (g ++ g2) ∧ P t v g ∧ Owns P (ts.set i t') (vs.set i v') (g1 ++ (f' ++ g2))
  | [], _, _, _, _, _, _, _, _, h, _ => by simp at h
  | t :: ts, vs, fp, i, t0, t', v', f', h, hi, hp => by
    obtain ⟨v, r, f1, f2, e1, e2, p, o⟩ := h
    subst e1 e2
    cases i with
    | zero =>
      have e : t = t0 := by simpa using hi
      subst e
      exact ⟨v, [], f1, f2, rfl, rfl, p, v', r, f', f2, rfl, rfl, hp, o⟩
    | succ i =>
      obtain ⟨w, g1, g, g2, a, b, c, d⟩ := Owns.set (i := i) o (by simpa using hi) hp
      subst b
      exact ⟨w, f1 ++ g1, g, g2, by simpa using a, by rw [List.append_assoc], c, v, r.set i v', f1, g1 ++ (f' ++ g2), rfl, by rw [List.append_assoc], p, d⟩

theorem own_imp {K : PySem.W.Frag} {H0 H H0' H' : Hp} (e : Same H0 H0') : ∀ (d : Nat) (t : T) (v : V) (fp : List Addr), (∀ a ∈ fp, H' a = H a) → Own K H0 H d t v fp → Own K H0' H' d t v fp
  | 0, t, v, fp, _, h => ⟨h.1, rep_mono e t v h.2⟩
  | d + 1, .lst ts, v, fp, k, h => by
    obtain ⟨a, vs, f, e1, e2, e3, o⟩ := h
    subst e3
    exact ⟨a, vs, f, e1, (k a List.mem_cons_self).trans e2, rfl, o.imp fun t v g hg => own_imp e d t v g fun b hb => k b (List.mem_cons_of_mem _ (hg b hb))⟩
  | d + 1, .non, v, fp, _, h => h
  | d + 1, .bl _, v, fp, _, h => h
  | d + 1, .int _, v, fp, _, h => h
  | d + 1, .str _, v, fp, _, h => h
  | d + 1, .tup ts, v, fp, _, h => ⟨h.1, rep_mono e _ v h.2⟩
  | d + 1, .scr ns, v, fp, _, h => ⟨h.1, rep_mono e _ v h.2⟩
  | d + 1, .ins C ns ts, v, fp, _, h => ⟨h.1, rep_mono e _ v h.2⟩
/-- all in one heap: what is one's own is frozen there -/
theorem own_rep {K : PySem.W.Frag} {H0 H H' : Hp} (e : Same H0 H') : ∀ (d : Nat) (t : T) (v : V) (fp : List Addr), (∀ a ∈ fp, H' a = H a) → Own K H0 H d t v fp → Rep K H' t v
  | 0, t, v, fp, _, h => rep_mono e t v h.2
  | d + 1, .lst ts, v, fp, k, h => by
    obtain ⟨a, vs, f, e1, e2, e3, o⟩ := h
    subst e3
    unfold Rep
    exact ⟨a, vs, e1, (k a List.mem_cons_self).trans e2, o.reps fun t v g hg => own_rep e d t v g fun b hb => k b (List.mem_cons_of_mem _ (hg b hb))⟩
  | d + 1, .non, v, fp, _, h => h.2
  | d + 1, .bl _, v, fp, _, h => h.2
  | d + 1, .int _, v, fp, _, h => h.2
  | d + 1, .str _, v, fp, _, h => h.2
  | d + 1, .tup ts, v, fp, _, h => rep_mono e _ v h.2
  | d + 1, .scr ns, v, fp, _, h => rep_mono e _ v h.2
  | d + 1, .ins C ns ts, v, fp, _, h => rep_mono e _ v h.2
theorem own_here {K : PySem.W.Frag} {H0 H : Hp} {d : Nat} {t : T} {v : V} {fp : List Addr} (e : Same H0 H) (h : Own K H0 H d t v fp) : Rep K H t v := own_rep e d t v fp (fun _ _ => rfl) h
theorem own_in {K : PySem.W.Frag} {H0 H : Hp} : ∀ (d : Nat) (t : T) (v : V) (fp : List Addr), Own K H0 H d t v fp → ∀ a ∈ fp, ∃ xs, H a = some (.lst xs)
  | 0, t, v, fp, h, a, ha => by
    rw [h.1] at ha
    cases ha
  | d + 1, .lst ts, v, fp, h, b, hb => by
    obtain ⟨a, vs, f, e1, e2, e3, o⟩ := h
    subst e3
    rcases List.mem_cons.mp hb with e | hb
    · exact ⟨vs, e ▸ e2⟩
    · have key : ∀ (ts : List T) (vs : List V) (f : List Addr), Owns (Own K H0 H d) ts vs f → ∀ b ∈ f, ∃ xs, H b = some (.lst xs) := by
        intro ts
        induction ts with
        | nil =>
          intro vs f o b hb
          rw [o.2] at hb
          cases hb
        | cons t ts ih =>
          intro vs f o b hb
          obtain ⟨v, r, f1, f2, e1, e2, p, o⟩ := o
          subst e2
          rcases List.mem_append.mp hb with hb | hb
          · exact own_in d t v f1 p b hb
          · exact ih r f2 o b hb
      exact key ts vs f o b hb
  | d + 1, .non, v, fp, h, a, ha => by
    rw [h.1] at ha
    cases ha
  | d + 1, .bl _, v, fp, h, a, ha => by
    rw [h.1] at ha
    cases ha
  | d + 1, .int _, v, fp, h, a, ha => by
    rw [h.1] at ha
    cases ha
  | d + 1, .str _, v, fp, h, a, ha => by
    rw [h.1] at ha
    cases ha
  | d + 1, .tup ts, v, fp, h, a, ha => by
    rw [h.1] at ha
    cases ha
  | d + 1, .scr ns, v, fp, h, a, ha => by
    rw [h.1] at ha
    cases ha
  | d + 1, .ins C ns ts, v, fp, h, a, ha => by
    rw [h.1] at ha
    cases ha
/-- what is no list is frozen at any depth -/
def T.isLst : T → Bool
  | .lst _ => true
  | _ => false
theorem own_flat {K : PySem.W.Frag} {H0 H : Hp} : ∀ {d : Nat} {t : T} {v : V}, t.isLst = false → Rep K H0 t v → Own K H0 H d t v []
  | 0, t, v, _, h => ⟨rfl, h⟩
  | d + 1, .lst ts, v, e, h => by cases e
  | d + 1, .non, v, _, h => ⟨rfl, h⟩
  | d + 1, .bl _, v, _, h => ⟨rfl, h⟩
  | d + 1, .int _, v, _, h => ⟨rfl, h⟩
  | d + 1, .str _, v, _, h => ⟨rfl, h⟩
  | d + 1, .tup ts, v, _, h => ⟨rfl, h⟩
  | d + 1, .scr ns, v, _, h => ⟨rfl, h⟩
  | d + 1, .ins C ns ts, v, _, h => ⟨rfl, h⟩
theorem flat_own {K : PySem.W.Frag} {H0 H : Hp} : ∀ {d : Nat} {t : T} {v : V} {fp : List Addr}, t.isLst = false → Own K H0 H d t v fp → fp = [] ∧ Rep K H0 t v
  | 0, t, v, fp, _, h => h
  | d + 1, .lst ts, v, fp, e, h => by cases e
  | d + 1, .non, v, fp, _, h => h
  | d + 1, .bl _, v, fp, _, h => h
  | d + 1, .int _, v, fp, _, h => h
  | d + 1, .str _, v, fp, _, h => h
  | d + 1, .tup ts, v, fp, _, h => h
  | d + 1, .scr ns, v, fp, _, h => h
  | d + 1, .ins C ns ts, v, fp, _, h => h
/-- a list of what is no list may be taken at any depth -/
theorem owns_flat {K : PySem.W.Frag} {H0 H : Hp} {d e : Nat} : ∀ {ts : List T} {vs : List V} {f : List Addr}, ts.all (fun t => !t.isLst) = true → Owns (Own K H0 H d) ts vs f → Owns (Own K H0 H e) ts vs f
  | [], _, _, _, h => h
  | t :: ts, vs, f, hf, h => by
    obtain ⟨v, r, f1, f2, e1, e2, p, o⟩ := h
    rw [List.all_cons, Bool.and_eq_true] at hf
    have hl : t.isLst = false := by simpa using hf.1
    obtain ⟨rfl, rp⟩ := flat_own hl p
    exact ⟨v, r, [], f2, e1, e2, own_flat hl rp, owns_flat hf.2 o⟩
theorem own_flatL {K : PySem.W.Frag} {H0 H : Hp} {d e : Nat} {ts : List T} {v : V} {f : List Addr} (hd : 1 ≤ d) (hf : ts.all (fun t => !t.isLst) = true) (h : Own K H0 H d (.lst ts) v f) : Own K H0 H (e + 1) (.lst ts) v f := by
  cases d with
  | zero => omega
  | succ d =>
    obtain ⟨a, vs, g, e1, e2, e3, o⟩ := h
    exact ⟨a, vs, g, e1, e2, e3, owns_flat hf o⟩
/-- objects at fp added to the frozen ones -/
def adj (H0 H : Hp) (fp : List Addr) : Hp := fun a => if a ∈ fp then H a else H0 a
theorem adj_in {H0 H : Hp} {fp : List Addr} {a : Addr} (h : a ∈ fp) : adj H0 H fp a = H a := if_pos h
theorem adj_out {H0 H : Hp} {fp : List Addr} {a : Addr} (h : a ∉ fp) : adj H0 H fp a = H0 a := if_neg h
theorem same_adj {H0 H : Hp} (e : Same H0 H) {fp : List Addr} : Same H0 (adj H0 H fp) := fun a o h => by
  by_cases ha : a ∈ fp
  · rw [adj_in ha]
    exact e a o h
  · rw [adj_out ha]
    exact h
theorem adj_same {H0 H : Hp} (e : Same H0 H) {fp : List Addr} : Same (adj H0 H fp) H := fun a o h => by
  by_cases ha : a ∈ fp
  · rw [adj_in ha] at h
    exact h
  · rw [adj_out ha] at h
    exact e a o h

/-- the heaps behind: nothing that stood has changed, and what stood is frozen only if it was -/
structure Ext (H0 H H0' H' : Hp) : Prop where
  s : Same H H'
  s0 : Same H0 H0'
  le : Same H0' H'
  nw : ∀ a o, H a = some o → H0' a = H0 a
theorem Ext.refl {H0 H : Hp} (e : Same H0 H) : Ext H0 H H0 H := ⟨Same.refl _, Same.refl _, e, fun _ _ _ => rfl⟩
theorem Ext.trans {H0 H H1 H' H2 H'' : Hp} (a : Ext H0 H H1 H') (b : Ext H1 H' H2 H'') : Ext H0 H H2 H'' :=
  ⟨a.s.trans b.s, a.s0.trans b.s0, b.le, fun x o h => (b.nw x o (a.s x o h)).trans (a.nw x o h)⟩
/-- a new object, not frozen yet -/
theorem Ext.new {H0 H : Hp} (e : Same H0 H) {p : Addr} {o : HO} (h : H p = none) : Ext H0 H H0 (upd H p o) :=
  ⟨fun a u q => by rw [upd_ne (ne_of_none q h)]; exact q, Same.refl _, fun a u q => by rw [upd_ne (ne_of_none (e a u q) h)]; exact e a u q, fun _ _ _ => rfl⟩
theorem Same.none {H H' : Hp} (e : Same H H') {a : Addr} (h : H' a = none) : H a = none := e.free h
/-- new objects frozen -/
theorem Ext.frz {H0 H H0' H' : Hp} (x : Ext H0 H H0' H') {fp : List Addr} (h : ∀ a ∈ fp, H a = none) : Ext H0 H (adj H0' H' fp) H' :=
  ⟨x.s, x.s0.trans (same_adj x.le), adj_same x.le, fun a o q => by
    by_cases ha : a ∈ fp
    · rw [h a ha] at q
      cases q
    · rw [adj_out ha]
      exact x.nw a o q⟩

/-! ### places within a tree -/
def T.at : T → List Nat → Option T
  | t, [] => some t
  | .lst ts, k :: p => match ts[k]? with
    | some t => t.at p
    | none => none
  | _, _ :: _ => none
def T.put : T → List Nat → T → T
  | _, [], u => u
  | .lst ts, k :: p, u => match ts[k]? with
    | some t => .lst (ts.set k (t.put p u))
    | none => .lst ts
  | t, _ :: _, _ => t
def NodeAt (H : Hp) : V → List Nat → V → Prop
  | v, [], w => v = w
  | v, k :: p, w => ∃ a vs x, v = .ref a ∧ H a = some (.lst vs) ∧ vs[k]? = some x ∧ NodeAt H x p w
theorem NodeAt.mono {H H' : Hp} (e : Same H H') : ∀ {p : List Nat} {v w : V}, NodeAt H v p w → NodeAt H' v p w
  | [], _, _, h => h
  | k :: p, v, w, h => by
    obtain ⟨a, vs, x, e1, e2, e3, e4⟩ := h
    exact ⟨a, vs, x, e1, e _ _ e2, e3, e4.mono e⟩
/-- the node at a path, read -/
theorem own_at {K : PySem.W.Frag} {H0 H : Hp} : ∀ {p : List Nat} {d : Nat} {t t' : T} {v w : V} {fp : List Addr}, Own K H0 H d t v fp → NodeAt H v p w → t.at p = some t' → p.length ≤ d → ∃ f, Own K H0 H (d - p.length) t' w f ∧ ∀ a ∈ f, a ∈ fp
  | [], d, t, t', v, w, fp, h, n, e, _ => by
    have e1 : v = w := n
    have e2 : t = t' := by
      unfold T.at at e
      exact Option.some.inj e
    subst e1 e2
    exact ⟨fp, by simpa using h, fun _ x => x⟩
  | k :: p, d, t, t', v, w, fp, h, n, e, hd => by
    obtain ⟨a, vs, x, e1, e2, e3, e4⟩ := n
    cases d with
    | zero => simp at hd
    | succ d =>
      cases t with
      | lst ts =>
        obtain ⟨a', vs', f, q1, q2, q3, o⟩ := h
        rw [e1] at q1
        cases q1
        rw [e2] at q2
        cases q2
        unfold T.at at e
        split at e
        · rename_i t1 ht
          obtain ⟨y, g, y1, y2, y3⟩ := o.get ht
          rw [e3] at y1
          cases y1
          obtain ⟨f2, z1, z2⟩ := own_at (p := p) y2 e4 e (by simpa using hd)
          refine ⟨f2, ?_, fun b hb => by rw [q3]; exact List.mem_cons_of_mem _ (y3 b (z2 b hb))⟩
          rw [show d + 1 - (k :: p).length = d - p.length by simp]
          exact z1
        · cases e
      | _ => unfold T.at at e; cases e
/-- the node that a path names is there -/
theorem own_node {K : PySem.W.Frag} {H0 H : Hp} : ∀ {p : List Nat} {d : Nat} {t t' : T} {v : V} {fp : List Addr}, Own K H0 H d t v fp → t.at p = some t' → p.length ≤ d → ∃ w, NodeAt H v p w
  | [], d, t, t', v, fp, h, e, _ => ⟨v, rfl⟩
  | k :: p, d, t, t', v, fp, h, e, hd => by
    cases d with
    | zero => simp at hd
    | succ d =>
      cases t with
      | lst ts =>
        obtain ⟨a', vs', f, q1, q2, q3, o⟩ := h
        unfold T.at at e
        split at e
        · rename_i t1 ht
          obtain ⟨y, g, y1, y2, y3⟩ := o.get ht
          obtain ⟨w, hw⟩ := own_node (p := p) y2 e (by simpa using hd)
          exact ⟨w, a', vs', y, q1, q2, y1, hw⟩
        · cases e
      | _ => unfold T.at at e; cases e
theorem Owns.upd {P : T → V → List Addr → Prop} : ∀ {ts : List T} {vs : List V} {fp : List Addr} {i : Nat} {t : T}, Owns P ts vs fp → ts[i]? = some t → ∃ v g1 g g2, vs[i]? = some v ∧ fp = g1 ++ (g ++ g2) ∧ P t v g ∧
    ∀ (P' : T → V → List Addr → Prop) (t' : T) (f' : List Addr), (∀ t v f, (∀ b ∈ f, b ∈ g1 ∨ b ∈ g2) → P t v f → P' t v f) → P' t' v f' → Owns P' (ts.set i t') vs (g1 ++ (f' ++ g2))
  | [], _, _, _, _, _, h => by simp at h
  | t :: ts, vs, fp, i, t0, h, hi => by
    obtain ⟨v, r, f1, f2, e1, e2, p, o⟩ := h
    subst e1 e2
    cases i with
    | zero =>
      have e : t = t0 := by simpa using hi
      subst e
      exact ⟨v, [], f1, f2, rfl, rfl, p, fun P' t' f' k q => ⟨v, r, f', f2, rfl, rfl, q, o.imp fun t v f hf => k t v f fun b hb => .inr (hf b hb)⟩⟩
    | succ i =>
      obtain ⟨w, g1, g, g2, a, b, c, d⟩ := Owns.upd (i := i) o (by simpa using hi)
      subst b
      refine ⟨w, f1 ++ g1, g, g2, by simpa using a, by rw [List.append_assoc], c, fun P' t' f' k q => ?_⟩
      refine ⟨v, r, f1, g1 ++ (f' ++ g2), rfl, by rw [List.append_assoc], k t v f1 (fun b hb => .inl (List.mem_append_left _ hb)) p, d P' t' f' (fun t v f hf => k t v f fun b hb => (hf b hb).elim (fun z => .inl (List.mem_append_right _ z)) .inr) q⟩
/-- a list of one's own at a path is changed -/
theorem own_put {K : PySem.W.Frag} {H0 H : Hp} : ∀ {p : List Nat} {d : Nat} {t : T} {ts : List T} {v : V} {fp : List Addr}, Own K H0 H d t v fp → fp.Nodup → t.at p = some (.lst ts) → p.length < d →
    ∃ a vs f, NodeAt H v p (.ref a) ∧ H a = some (.lst vs) ∧ a ∈ fp ∧ a ∉ f ∧ (∀ b ∈ f, b ∈ fp) ∧ f.Nodup ∧ Owns (Own K H0 H (d - p.length - 1)) ts vs f ∧
      ∀ (H0' H' : Hp) (ts' : List T) (vs' : List V) (f' : List Addr), Same H0 H0' → H' a = some (.lst vs') → (∀ b ∈ fp, b ≠ a → H' b = H b) → Owns (Own K H0' H' (d - p.length - 1)) ts' vs' f' → f'.Nodup → (∀ b ∈ f', b ∈ f ∨ b ∉ fp) →
        ∃ fp', Own K H0' H' d (t.put p (.lst ts')) v fp' ∧ fp'.Nodup ∧ ∀ b ∈ fp', b ∈ fp ∨ b ∈ f'
  | [], d, t, ts, v, fp, h, nd, e, hd => by
    have e2 : t = .lst ts := by
      unfold T.at at e
      exact Option.some.inj e
    subst e2
    cases d with
    | zero => simp at hd
    | succ d =>
      obtain ⟨a, vs, f, q1, q2, q3, o⟩ := h
      subst q3
      have nd' := List.nodup_cons.mp nd
      refine ⟨a, vs, f, q1, q2, List.mem_cons_self, nd'.1, fun b hb => List.mem_cons_of_mem _ hb, nd'.2, by simpa using o, fun H0' H' ts' vs' f' e0 ha hb ho nf hf => ?_⟩
      refine ⟨a :: f', ⟨a, vs', f', q1, ha, rfl, by simpa using ho⟩, List.nodup_cons.mpr ⟨fun hm => ?_, nf⟩, fun b hm => ?_⟩
      · rcases hf a hm with z | z
        · exact nd'.1 z
        · exact z List.mem_cons_self
      · rcases List.mem_cons.mp hm with z | z
        · exact .inl (z ▸ List.mem_cons_self)
        · exact .inr z
  | k :: p, d, t, ts, v, fp, h, nd, e, hd => by
    cases d with
    | zero => simp at hd
    | succ d =>
      cases t with
      | lst us =>
        obtain ⟨a0, vs0, f0, q1, q2, q3, o⟩ := h
        subst q3
        have nd' := List.nodup_cons.mp nd
        unfold T.at at e
        split at e
        · rename_i t1 ht
          obtain ⟨v1, g1, g, g2, y1, y2, y3, y4⟩ := o.upd ht
          subst y2
          have ng := List.nodup_append.mp nd'.2
          have ng2 := List.nodup_append.mp ng.2.1
          obtain ⟨a, vs, f, z1, z2, z3, z4, z5, z6, z7, z8⟩ := own_put (p := p) y3 ng2.1 e (by simpa using hd)
          have hag : a ∈ g1 ++ (g ++ g2) := List.mem_append_right _ (List.mem_append_left _ z3)
          have ha0 : a ≠ a0 := fun z => nd'.1 (z ▸ hag)
          have hs : d + 1 - (k :: p).length - 1 = d - p.length - 1 := by simp
          refine ⟨a, vs, f, ⟨a0, vs0, v1, q1, q2, y1, z1⟩, z2, List.mem_cons_of_mem _ hag, z4, fun b hb => List.mem_cons_of_mem _ (List.mem_append_right _ (List.mem_append_left _ (z5 b hb))), z6, by rw [hs]; exact z7, fun H0' H' ts' vs' f' e0 ha hb ho nf hf => ?_⟩
          rw [hs] at ho
          have sub : ∀ b ∈ g, b ∈ a0 :: (g1 ++ (g ++ g2)) := fun b hb => List.mem_cons_of_mem _ (List.mem_append_right _ (List.mem_append_left _ hb))
          have sub1 : ∀ b ∈ g1, b ∈ a0 :: (g1 ++ (g ++ g2)) := fun b hb => List.mem_cons_of_mem _ (List.mem_append_left _ hb)
          have sub2 : ∀ b ∈ g2, b ∈ a0 :: (g1 ++ (g ++ g2)) := fun b hb => List.mem_cons_of_mem _ (List.mem_append_right _ (List.mem_append_right _ hb))
          obtain ⟨g', w1, w2, w3⟩ := z8 H0' H' ts' vs' f' e0 ha (fun b hm hne => hb b (sub b hm) hne) ho nf (fun b hm => (hf b hm).imp id fun z hz => z (sub b hz))
          have n1 : ∀ b ∈ g1, b ≠ a := fun b hb1 z => ng.2.2 b hb1 a (List.mem_append_left _ z3) z
          have n2 : ∀ b ∈ g2, b ≠ a := fun b hb2 z => ng2.2.2 a z3 b hb2 z.symm
          have oo := y4 (Own K H0' H' d) (t1.put p (.lst ts')) g' (fun t v f hf2 ho2 => own_imp e0 d t v f (fun b hm => by
            rcases hf2 b hm with z | z
            · exact hb b (sub1 b z) (n1 b z)
            · exact hb b (sub2 b z) (n2 b z)) ho2) w1
          have key : ∀ b ∈ g', (b ∈ g1 → False) ∧ (b ∈ g2 → False) ∧ b ≠ a0 := fun b hm => by
            rcases w3 b hm with z | z
            · exact ⟨fun y => ng.2.2 b y b (List.mem_append_left _ z) rfl, fun y => ng2.2.2 b z b y rfl, fun y => nd'.1 (y ▸ List.mem_append_right _ (List.mem_append_left _ z))⟩
            · rcases hf b z with u | u
              · have z := z5 b u
                exact ⟨fun y => ng.2.2 b y b (List.mem_append_left _ z) rfl, fun y => ng2.2.2 b z b y rfl, fun y => nd'.1 (y ▸ List.mem_append_right _ (List.mem_append_left _ z))⟩
              · exact ⟨fun y => u (sub1 b y), fun y => u (sub2 b y), fun y => u (y ▸ List.mem_cons_self)⟩
          refine ⟨a0 :: (g1 ++ (g' ++ g2)), ?_, ?_, ?_⟩
          · unfold T.put
            rw [ht]
            exact ⟨a0, vs0, g1 ++ (g' ++ g2), q1, (hb a0 List.mem_cons_self ha0.symm).trans q2, rfl, oo⟩
          · refine List.nodup_cons.mpr ⟨fun hm => ?_, List.nodup_append.mpr ⟨ng.1, List.nodup_append.mpr ⟨w2, ng2.2.1, fun x hx y hy z => (key x hx).2.1 (z ▸ hy)⟩, fun x hx y hy z => ?_⟩⟩
            · rcases List.mem_append.mp hm with z | z
              · exact nd'.1 (List.mem_append_left _ z)
              · rcases List.mem_append.mp z with z | z
                · exact (key a0 z).2.2 rfl
                · exact nd'.1 (List.mem_append_right _ (List.mem_append_right _ z))
            · rcases List.mem_append.mp hy with u | u
              · exact (key y u).1 (z ▸ hx)
              · exact ng.2.2 x hx y (List.mem_append_right _ u) z
          · intro b hm
            rcases List.mem_cons.mp hm with z | z
            · exact .inl (z ▸ List.mem_cons_self)
            · rcases List.mem_append.mp z with z | z
              · exact .inl (sub1 b z)
              · rcases List.mem_append.mp z with z | z
                · exact (w3 b z).imp (sub b) id
                · exact .inl (sub2 b z)
        · cases e
      | _ => unfold T.at at e; cases e
end PT

/-! The language of the laws as a small syntax, and what it wants (a weakest precondition over trees). -/
namespace PT
open PySem PySem.Spec PyProof.Rows L2

/-- where a value comes from: read down to the depth d in lists of one's own (0: frozen), or new and one's own down to d -/
inductive Og where
  | bor (d : Nat) | fr (d : Nat)
def Og.item : Og → Og
  | .bor (d + 1) => .bor d
  | _ => .bor 0
/-- its items are frozen, or new -/
def Og.shal : Og → Prop
  | .bor (_ + 2) => False
  | _ => True
def ogOf : Nat → Og
  | 0 => .bor 0
  | d + 1 => .fr (d + 1)
/-- the value is stored or handed on: frozen -/
def take (t : T) (og : Og) (k : Prop) : Prop := match og with
  | .bor 0 => k
  | .fr _ => k
  | .bor (_ + 1) => match t with
    | .lst _ => False
    | _ => k
/-- the value is stored in a list of one's own, at the depth d -/
def keep : Nat → T → Og → Prop → Prop
  | 0, t, og, k => take t og k
  | d + 1, t, og, k => match og with
    | .fr e => (match t with
      | .lst ts => (e = d + 1 ∨ (1 ≤ e ∧ ts.all (fun t => !t.isLst) = true)) ∧ k
      | _ => k)
    | .bor _ => (match t with
      | .lst _ => False
      | _ => k)
/-- a slot: empty, frozen, a list of one's own (its root), a place within one, or a value that is only read -/
inductive Sl where
  | em | sh (t : T) | ow (d : Nat) (t : T) | al (r : Nat) (p : List Nat) | br (d : Nat) (t : T) | slf (C : Str) (ns : List Str) (ts : List T)
abbrev Env := List Sl
def Env.get : Env → Nat → Sl
  | [], _ => .em
  | s :: _, 0 => s
  | _ :: r, n + 1 => Env.get r n
def Env.put : Env → Nat → Sl → Env
  | [], _, _ => []
  | _ :: r, 0, x => x :: r
  | s :: r, n + 1, x => s :: Env.put r n x
/-- the slot i is stored: what stood for a place within it is gone -/
def Sl.unroot (i : Nat) : Sl → Sl
  | .al r p => if r = i then .em else .al r p
  | s => s
def Env.store (env : Env) (i : Nat) (s : Sl) : Env := Env.put (env.map (Sl.unroot i)) i s
/-- a list at a place of length n within the slot r is changed -/
def Sl.muted (r n : Nat) : Sl → Sl
  | .br _ _ => .em
  | .al r' p => if r' = r then (if n < p.length then .em else .al r' p) else .al r' p
  | s => s
def Env.mut (env : Env) (r n : Nat) (s : Sl) : Env := Env.put (env.map (Sl.muted r n)) r s
def Env.puts (env : Env) : List (Nat × Sl) → Env
  | [] => env
  | (i, s) :: r => Env.puts (Env.store env i s) r
/-- a block's own names forgotten -/
def Env.wipe (env : Env) : List Nat → Env
  | [] => env
  | i :: r => Env.store (Env.wipe env r) i .em
def slOf (t : T) : Og → Sl
  | .bor (d + 1) => .br (d + 1) t
  | _ => .sh t

inductive BOp where
  | add | sub | mul | fdiv | mod | pow | fdivN | fdivW
inductive COp where
  | lt | le | gt | ge | eq | ne | isN | notN | in_ | notIn
inductive Blt where
  | len | abs | min | max | sum | int | tuple | list | all | any
inductive Kd where
  | kInt | kBool | kStr | kList | kTuple

mutual
inductive TE where
  | var (i : Nat)
  | int (i : Int) | bl (b : Bool) | non | str (x : Str)
  | tup (es : TEs) | lst (d : Nat) (es : TEs)
  | bin (op : BOp) (a b : TE)
  | neg (a : TE)
  | cmp (op : COp) (a b : TE)
  | bop (and : Bool) (e : TE) (es : TEs)
  | not (a : TE)
  | ife (c a b : TE)
  | idx (a i : TE)
  | slc (a : TE) (lo hi : TO)
  | call (f : Nat) (bw : Bool) (dv : List T) (es : TEs)
  | callK (f : Nat) (bw : Bool) (ord : List Nat) (es ks : TEs)
  | callO (f p dp : Nat) (es : TEs)
  | callB (f : Nat) (es : TEs)
  | blt (f : Blt) (es : TEs)
  | gcd (a b : TE)
  | isin (e : TE) (ks : List Kd)
  | isc (e : TE) (D : Str) (oth : List Str)
  | fld (e : TE) (f : Str)
  | fldS (i : Nat) (f : Str)
  | lrng (es : TEs)
  | lc (d : Nat) (it : It) (cs : TEs) (e : TE)
  | lc2 (d : Nat) (it it2 : It) (cs cs2 : TEs) (e : TE)
inductive TO where
  | none | some (e : TE)
inductive TEs where
  | nil | cons (e : TE) (es : TEs)
inductive It where
  | seq (i : Nat) (e : TE)
  | rng (i : Nat) (es : TEs)
  | zip (i j : Nat) (a b : TE)
end

def It.slots : It → List Nat
  | .seq i _ => [i]
  | .rng i _ => [i]
  | .zip i j _ _ => [i, j]

mutual
inductive TS where
  | asg (i : Nat) (own : Option Nat) (e : TE)
  | ali (i j : Nat) (es : TEs)
  | unp (is : List Nat) (e : TE)
  | app (i : Nat) (es : TEs) (e : TE)
  | appMv (i : Nat) (es : TEs) (j : Nat)
  | sto (i : Nat) (es : TEs) (k e : TE)
  | frz (i : Nat)
  | ex (e : TE)
  | ite (c : TE) (a b : TSs)
  | whl (c : TE) (b : TSs)
  | for_ (it : It) (b : TSs)
  | forO (i j : Nat) (b : TSs)
  | forD (i j : Nat) (es : TEs) (b : TSs)
  | ret (e : TE) | retV (i : Nat) | retN
  | brk | cnt | pas
  | fgt (is : List Nat)
  | fst (i : Nat) (C : Str) (f : Str) (e : TE)
  | rse
  | yld (e : TE)
  | forG (i f : Nat) (es : TEs) (b : TSs)
inductive TSs where
  | nil | cons (s : TS) (r : TSs)
end

/-! ### data -/
abbrev iL (l : List Int) : List T := l.map T.int
abbrev bL (l : List Bool) : List T := l.map T.bl
def cutT {α : Type} (xs : List α) (lo hi : Option Int) : List α := (xs.drop (HT.sIx xs.length 0 lo)).take (HT.sIx xs.length xs.length hi - HT.sIx xs.length 0 lo)
mutual
/-- == of data -/
def T.beq : T → T → Bool
  | .non, .non => true
  | .bl a, .bl b => a == b
  | .bl a, .int b => (if a then 1 else 0) == b
  | .int a, .bl b => a == (if b then 1 else 0)
  | .int a, .int b => a == b
  | .str a, .str b => a == b
  | .tup xs, .tup ys => T.beqs xs ys
  | .lst xs, .lst ys => T.beqs xs ys
  | _, _ => false
def T.beqs : List T → List T → Bool
  | [], [] => true
  | x :: xs, y :: ys => T.beq x y && T.beqs xs ys
  | _, _ => false
end
mutual
/-- data of at most that depth -/
def T.dep : T → Nat → Prop
  | .tup xs, n + 1 => T.deps xs n
  | .lst xs, n + 1 => T.deps xs n
  | .non, _ => True
  | .bl _, _ => True
  | .int _, _ => True
  | .str x, _ => PyData.canLay0 (.str x) = true
  | _, _ => False
def T.deps : List T → Nat → Prop
  | [], _ => True
  | x :: xs, n => T.dep x n ∧ T.deps xs n
end
def T.flat : T → Bool
  | .non => true
  | .bl _ => true
  | .int _ => true
  | .str _ => true
  | _ => false
def T.isNon : T → Bool
  | .non => true
  | _ => false
def kdIs : Kd → T → Bool
  | .kInt, .int _ => true
  | .kInt, .bl _ => true
  | .kBool, .bl _ => true
  | .kStr, .str _ => true
  | .kList, .lst _ => true
  | .kList, .scr _ => true
  | .kTuple, .tup _ => true
  | _, _ => false

/-- isinstance of an own class: of the classes that are known -/
def iscT : T → Str → List Str → (T → Og → Prop) → Prop
  | .ins C _ _, D, oth, Q => (C = D ∨ C ∈ oth) ∧ Q (.bl (decide (C = D))) (.bor 0)
  | _, _, _, Q => Q (.bl false) (.bor 0)
/-- a field -/
def fldT : T → Str → (T → Og → Prop) → Prop
  | .ins _ ns ts, f, Q => ∃ t, (ns.zip ts).lookup f = some t ∧ Q t (.bor 0)
  | _, _, _ => False
mutual
/-- no list in it -/
def T.noL : T → Bool
  | .lst _ => false
  | .scr _ => false
  | .tup xs => T.noLs xs
  | .ins _ _ xs => T.noLs xs
  | _ => true
def T.noLs : List T → Bool
  | [] => true
  | x :: xs => T.noL x && T.noLs xs
end
/-- a list of what has no list in it -/
def T.noL1 : T → Bool
  | .lst xs => T.noLs xs
  | _ => false
def isinT : T → List Kd → (T → Og → Prop) → Prop
  | x, ks, Q => Q (.bl (ks.any fun k => kdIs k x)) (.bor 0)

/-! ### operations on values -/
def binT : BOp → T → Og → T → Og → (T → Og → Prop) → Prop
  | .add, .int i, _, .int j, _, Q => Q (.int (i + j)) (.bor 0)
  | .sub, .int i, _, .int j, _, Q => Q (.int (i - j)) (.bor 0)
  | .mul, .int i, _, .int j, _, Q => IntMulOk i j ∧ Q (.int (i * j)) (.bor 0)
  | .fdiv, .int i, _, .int j, _, Q => (0 < j ∧ j.natAbs.log2 < 9000) ∧ Q (.int (i / j)) (.bor 0)
  | .fdivN, .int i, _, .int j, _, Q => (j ≠ 0 ∧ j.natAbs.log2 < 9000) ∧ Q (.int (i.fdiv j)) (.bor 0)
  | .fdivW, .int i, _, .int j, _, Q => (j ≠ 0 ∧ Builtin.divisionGoesByPylong i j = false) ∧ Q (.int (i.fdiv j)) (.bor 0)
  | .mod, .int i, _, .int j, _, Q => 0 < j ∧ Q (.int (i % j)) (.bor 0)
  | .pow, .int i, _, .int j, _, Q => (0 ≤ j ∧ j ≤ 1000000 ∧ i.natAbs < 2 ^ 64) ∧ Q (.int (i ^ j.toNat)) (.bor 0)
  | .add, .lst xs, o, .lst ys, o', Q => o.shal ∧ o'.shal ∧ xs.length + ys.length ≤ sizeLine ∧ Q (.lst (xs ++ ys)) (.fr 1)
  | .mul, .lst xs, o, .int k, _, Q => o.shal ∧ (-(2 ^ 63) ≤ k ∧ k < 2 ^ 63) ∧ xs.length * k.toNat ≤ sizeLine ∧ Q (.lst (List.replicate k.toNat xs).flatten) (.fr 1)
  | .add, .str a, _, .str b, _, Q => a.length + b.length ≤ sizeLine ∧ Q (.str (a ++ b)) (.bor 0)
  | .add, .tup xs, _, .tup ys, _, Q => xs.length + ys.length ≤ sizeLine ∧ Q (.tup (xs ++ ys)) (.bor 0)
  | _, _, _, _, _, _ => False
def cmpT : COp → T → T → (T → Og → Prop) → Prop
  | .lt, .int i, .int j, Q => Q (.bl (decide (i < j))) (.bor 0)
  | .le, .int i, .int j, Q => Q (.bl (decide (i ≤ j))) (.bor 0)
  | .gt, .int i, .int j, Q => Q (.bl (decide (j < i))) (.bor 0)
  | .ge, .int i, .int j, Q => Q (.bl (decide (j ≤ i))) (.bor 0)
  | .eq, .int i, .int j, Q => Q (.bl (decide (i = j))) (.bor 0)
  | .ne, .int i, .int j, Q => Q (.bl (!decide (i = j))) (.bor 0)
  | .eq, x, y, Q => x.dep 60 ∧ y.dep 60 ∧ Q (.bl (T.beq x y)) (.bor 0)
  | .ne, x, y, Q => x.dep 60 ∧ y.dep 60 ∧ Q (.bl (!T.beq x y)) (.bor 0)
  | .isN, x, .non, Q => Q (.bl x.isNon) (.bor 0)
  | .notN, x, .non, Q => Q (.bl (!x.isNon)) (.bor 0)
  | .in_, x, .lst ys, Q => x.flat = true ∧ ys.all T.flat = true ∧ Q (.bl (ys.any fun y => T.beq y x)) (.bor 0)
  | .in_, x, .tup ys, Q => x.flat = true ∧ ys.all T.flat = true ∧ Q (.bl (ys.any fun y => T.beq y x)) (.bor 0)
  | .notIn, x, .lst ys, Q => x.flat = true ∧ ys.all T.flat = true ∧ Q (.bl (!ys.any fun y => T.beq y x)) (.bor 0)
  | .notIn, x, .tup ys, Q => x.flat = true ∧ ys.all T.flat = true ∧ Q (.bl (!ys.any fun y => T.beq y x)) (.bor 0)
  | _, _, _, _ => False
def idxT : T → Og → T → (T → Og → Prop) → Prop
  | .lst xs, o, .int k, Q => ∃ t, atI xs k = some t ∧ Q t o.item
  | .tup xs, _, .int k, Q => ∃ t, atI xs k = some t ∧ Q t (.bor 0)
  | .scr xs, _, .int k, Q => ∃ i, atI xs k = some i ∧ Q (.int i) (.bor 0)
  | _, _, _, _ => False
def slcT : T → Og → Option Int → Option Int → (T → Og → Prop) → Prop
  | .lst xs, o, lo, hi, Q => o.shal ∧ Q (.lst (cutT xs lo hi)) (.fr 1)
  | .tup xs, _, lo, hi, Q => Q (.tup (cutT xs lo hi)) (.bor 0)
  | _, _, _, _, _ => False
def lenT : List (T × Og) → (T → Og → Prop) → Prop
  | [(.lst xs, _)], Q => Q (.int xs.length) (.bor 0)
  | [(.tup xs, _)], Q => Q (.int xs.length) (.bor 0)
  | [(.scr xs, _)], Q => Q (.int xs.length) (.bor 0)
  | [(.str x, _)], Q => x.length ≤ sizeLine ∧ Q (.int x.length) (.bor 0)
  | _, _ => False
structure MaxW (xs : List T) (Q : T → Og → Prop) : Prop where
  go : ∃ l, xs = iL l ∧ l ≠ [] ∧ ∀ m, m ∈ l → (∀ a ∈ l, a ≤ m) → Q (.int m) (.bor 0)
  on : True := trivial
structure MinW (xs : List T) (Q : T → Og → Prop) : Prop where
  go : ∃ l, xs = iL l ∧ l ≠ [] ∧ ∀ m, m ∈ l → (∀ a ∈ l, m ≤ a) → Q (.int m) (.bor 0)
  on : True := trivial
structure SumW (xs : List T) (Q : T → Og → Prop) : Prop where
  go : ∃ l, xs = iL l ∧ Q (.int l.sum) (.bor 0)
  on : True := trivial
structure AllW (xs : List T) (Q : T → Og → Prop) : Prop where
  go : ∃ l, xs = bL l ∧ Q (.bl (l.all id)) (.bor 0)
  on : True := trivial
structure AnyW (xs : List T) (Q : T → Og → Prop) : Prop where
  go : ∃ l, xs = bL l ∧ Q (.bl (l.any id)) (.bor 0)
  on : True := trivial
def absT : List (T × Og) → (T → Og → Prop) → Prop
  | [(.int i, _)], Q => Q (.int (if i < 0 then -i else i)) (.bor 0)
  | _, _ => False
def maxT : List (T × Og) → (T → Og → Prop) → Prop
  | [(.int i, _), (.int j, _)], Q => Q (.int (if j > i then j else i)) (.bor 0)
  | [(.lst xs, _)], Q => MaxW xs Q
  | [(.tup xs, _)], Q => MaxW xs Q
  | _, _ => False
def minT : List (T × Og) → (T → Og → Prop) → Prop
  | [(.int i, _), (.int j, _)], Q => Q (.int (if j < i then j else i)) (.bor 0)
  | [(.lst xs, _)], Q => MinW xs Q
  | [(.tup xs, _)], Q => MinW xs Q
  | _, _ => False
def sumT : List (T × Og) → (T → Og → Prop) → Prop
  | [(.lst xs, _)], Q => SumW xs Q
  | [(.tup xs, _)], Q => SumW xs Q
  | _, _ => False
def allT : List (T × Og) → (T → Og → Prop) → Prop
  | [(.lst xs, _)], Q => AllW xs Q
  | _, _ => False
def anyT : List (T × Og) → (T → Og → Prop) → Prop
  | [(.lst xs, _)], Q => AnyW xs Q
  | _, _ => False
def intT : List (T × Og) → (T → Og → Prop) → Prop
  | [(.int i, _)], Q => Q (.int i) (.bor 0)
  | [(.bl b, _)], Q => Q (.int (if b then 1 else 0)) (.bor 0)
  | _, _ => False
def tupT : List (T × Og) → (T → Og → Prop) → Prop
  | [(.lst xs, o)], Q => o.shal ∧ Q (.tup xs) (.bor 0)
  | [(.tup xs, _)], Q => Q (.tup xs) (.bor 0)
  | _, _ => False
def lstT : List (T × Og) → (T → Og → Prop) → Prop
  | [(.lst xs, o)], Q => (o.shal ∨ xs.all (fun t => !t.isLst) = true) ∧ Q (.lst xs) (.fr 1)
  | [(.tup xs, _)], Q => Q (.lst xs) (.fr 1)
  | [(.scr xs, _)], Q => Q (.lst (iL xs)) (.fr 1)
  | _, _ => False
def bltT : Blt → List (T × Og) → (T → Og → Prop) → Prop
  | .len => lenT
  | .abs => absT
  | .max => maxT
  | .min => minT
  | .sum => sumT
  | .int => intT
  | .tuple => tupT
  | .list => lstT
  | .all => allT
  | .any => anyT
def gcdT : T → T → (T → Og → Prop) → Prop
  | .int i, .int j, Q => Q (.int ((Nat.gcd i.natAbs j.natAbs : Nat) : Int)) (.bor 0)
  | _, _, _ => False
def negT : T → (T → Og → Prop) → Prop
  | .int i, Q => Q (.int (-i)) (.bor 0)
  | _, _ => False
def tru : T → (Bool → Prop) → Prop
  | .bl b, Q => Q b
  | _, _ => False
def asI : T → (Int → Prop) → Prop
  | .int i, Q => Q i
  | _, _ => False
def asIs : List (T × Og) → (List Int → Prop) → Prop
  | [], Q => Q []
  | (t, _) :: r, Q => asI t fun i => asIs r fun l => Q (i :: l)
def takes : List (T × Og) → (List T → Prop) → Prop
  | [], Q => Q []
  | (t, og) :: r, Q => take t og (takes r fun l => Q (t :: l))
def keeps (d : Nat) : List (T × Og) → (List T → Prop) → Prop
  | [], Q => Q []
  | (t, og) :: r, Q => keep d t og (keeps d r fun l => Q (t :: l))
/-- range(n), range(a, b) as its items -/
def rgL (a b : Int) : List Int := (List.range (b - a).toNat).map fun (k : Nat) => a + (k : Int)
def rngT : List (T × Og) → (Int → Int → Prop) → Prop
  | [(.int j, _)], Q => (-(2 ^ 62) ≤ j ∧ j < 2 ^ 62) ∧ Q 0 j
  | [(.int i, _), (.int j, _)], Q => (-(2 ^ 62) ≤ i ∧ i < 2 ^ 62 ∧ -(2 ^ 62) ≤ j ∧ j < 2 ^ 62) ∧ Q i j
  | _, _ => False
/-- the items of a list that is walked -/
def seqT : T → Og → (List T → Og → Prop) → Prop
  | .lst xs, o, Q => Q xs o.item
  | .tup xs, _, Q => Q xs (.bor 0)
  | .scr xs, _, Q => Q (iL xs) (.bor 0)
  | _, _, _ => False
def zipS (i j : Nat) (oa ob : Og) : List T → List T → List (List (Nat × Sl))
  | x :: xs, y :: ys => [(i, slOf x oa), (j, slOf y ob)] :: zipS i j oa ob xs ys
  | _, _ => []
/-- the new list of a comprehension, clause by clause -/
def lcL (f : List (Nat × Sl) → List T → (List T → Prop) → Prop) : List (List (Nat × Sl)) → List T → (List T → Prop) → Prop
  | [], acc, Q => Q acc
  | x :: xs, acc, Q => f x acc fun acc' => lcL f xs acc' Q
def forL (f : List (Nat × Sl) → Env → (Env → Prop) → Prop) : List (List (Nat × Sl)) → Env → (Env → Prop) → Prop
  | [], env, k => k env
  | x :: xs, env, k => f x env fun env' => forL f xs env' k
/-- over a list of one's own in the slot j, n turns from the i-th on; the body may change what stands in it -/
def forO (i j : Nat) (len : Nat) (f : Env → (Env → Prop) → Prop) : Nat → Env → (Env → Prop) → Prop
  | 0, env, k => (match env.get j with
    | .ow _ (.lst xs) => xs.length = len ∧ k env
    | _ => False)
  | n + 1, env, k => (match env.get j with
    | .ow d (.lst xs) => xs.length = len ∧ (match d with
      | d + 2 => f (env.store i (.al j [len - (n + 1)])) fun env' => forO i j len f n env' k
      | _ => ∃ t, xs[len - (n + 1)]? = some t ∧ f (env.store i (.sh t)) fun env' => forO i j len f n env' k)
    | _ => False)

/-- over a list within a list of one's own that is given up: its items become one's own, one after the other -/
def forD (i d : Nat) (f : Env → (Env → Prop) → Prop) : List T → Env → (Env → Prop) → Prop
  | [], env, k => k env
  | t :: ts, env, k => f (env.store i (.ow d t)) fun env' => forD i d f ts env' k
def Sl.isBr : Sl → Bool
  | .br _ _ => true
  | _ => false
/-- a call's wish, as a thing of its own -/
structure Cl (p : Prop) : Prop where
  go : p
  on : True := trivial
abbrev Gam := Nat → List T → (T → Prop) → Prop
def bwT (bw : Bool) (l : List (T × Og)) (Q : List T → Prop) : Prop := match bw with
  | true => Q (l.map (·.1))
  | false => takes l Q
def flatIf (bw : Bool) (t : T) (k : Prop) : Prop := match bw with
  | true => t.noL = true ∧ k
  | false => k
/-- the value is read, frozen -/
def takF (og : Og) (k : Prop) : Prop := match og with
  | .bor 0 => k
  | _ => False
def taksF : List (T × Og) → (List T → Prop) → Prop
  | [], Q => Q []
  | (t, og) :: r, Q => takF og (taksF r fun l => Q (t :: l))
/-- the p-th value is given away, new and one's own down to dp -/
def taksO (dp : Nat) : Nat → List (T × Og) → (List T → Prop) → Prop
  | _, [], _ => False
  | 0, (t, og) :: r, Q => match og with
    | .fr e => e = dp ∧ taksF r fun l => Q (t :: l)
    | .bor _ => False
  | p + 1, (t, og) :: r, Q => takF og (taksO dp p r fun l => Q (t :: l))
def pick (ts : List T) (ord : List Nat) : List T := ord.map fun k => ts.getD k .non

section
variable (Γ : Gam) (rd : Nat → Nat)
def varT (env : Env) (i : Nat) (Q : T → Og → Prop) : Prop := match env.get i with
  | .sh t => Q t (.bor 0)
  | .ow d t => Q t (.bor d)
  | .br d t => Q t (.bor d)
  | .al r p => (match env.get r with
    | .ow d t => p.length ≤ d ∧ ∃ t', t.at p = some t' ∧ Q t' (.bor (d - p.length))
    | _ => False)
  | .em => False
  | .slf _ _ _ => False
/-- self.f, in the making of an instance -/
def fldS (env : Env) (i : Nat) (f : Str) (Q : T → Og → Prop) : Prop := match env.get i with
  | .slf _ ns ts => ∃ t, (ns.zip ts).lookup f = some t ∧ Q t (.bor 0)
  | _ => False
mutual
def wpE : TE → Env → (T → Og → Prop) → Prop
  | .var i, env, Q => varT env i Q
  | .int i, _, Q => Q (.int i) (.bor 0)
  | .bl b, _, Q => Q (.bl b) (.bor 0)
  | .non, _, Q => Q .non (.bor 0)
  | .str x, _, Q => Q (.str x) (.bor 0)
  | .tup es, env, Q => wpEs es env fun l => takes l fun ts => ts.length ≤ sizeLine ∧ Q (.tup ts) (.bor 0)
  | .lst d es, env, Q => wpEs es env fun l => keeps d l fun ts => ts.length ≤ sizeLine ∧ Q (.lst ts) (.fr (d + 1))
  | .bin op a b, env, Q => wpE a env fun x o => wpE b env fun y o' => binT op x o y o' Q
  | .neg a, env, Q => wpE a env fun x _ => negT x Q
  | .cmp op a b, env, Q => wpE a env fun x _ => wpE b env fun y _ => cmpT op x y Q
  | .bop and e es, env, Q => wpE e env fun x o => wpB and es env x o Q
  | .not a, env, Q => wpE a env fun x _ => tru x fun b => Q (.bl (!b)) (.bor 0)
  | .ife c a b, env, Q => wpE c env fun x _ => tru x fun k => if k = true then wpE a env Q else wpE b env Q
  | .idx a i, env, Q => wpE a env fun x o => wpE i env fun y _ => idxT x o y Q
  | .slc a lo hi, env, Q => wpE a env fun x o => wpO lo env fun l => wpO hi env fun h => slcT x o l h Q
  | .call f bw dv es, env, Q => wpEs es env fun l => bwT bw l fun ts => Cl (Γ f (ts ++ dv) fun t => flatIf bw t (Q t (ogOf (rd f))))
  | .callK f bw ord es ks, env, Q => wpEs es env fun l => bwT bw l fun ts => wpEs ks env fun l' => bwT bw l' fun us => Cl (Γ f (pick (ts ++ us) ord) fun t => flatIf bw t (Q t (ogOf (rd f))))
  | .callO f p dp es, env, Q => wpEs es env fun l => taksO dp p l fun ts => Cl (Γ f ts fun t => Q t (ogOf (rd f)))
  | .callB f es, env, Q => wpEs es env fun l => Cl (Γ f (l.map (·.1)) fun t => t.noL1 = true ∧ Q t (.fr 1))
  | .blt f es, env, Q => wpEs es env fun l => bltT f l Q
  | .gcd a b, env, Q => wpE a env fun x _ => wpE b env fun y _ => gcdT x y Q
  | .isin e ks, env, Q => wpE e env fun x _ => isinT x ks Q
  | .isc e D oth, env, Q => wpE e env fun x _ => iscT x D oth Q
  | .fld e f, env, Q => wpE e env fun x _ => fldT x f Q
  | .fldS i f, env, Q => fldS env i f Q
  | .lrng es, env, Q => wpEs es env fun l => rngT l fun a b => (b - a).toNat ≤ 2 ^ 24 ∧ Q (.lst (iL (rgL a b))) (.fr 1)
  | .lc d it cs e, env, Q => wpI it env fun xs => lcL (fun x acc k => wpC cs ((env.wipe it.slots).puts x) fun b =>
      if b = true then wpE e ((env.wipe it.slots).puts x) fun y o => keep d y o (acc.length < sizeLine ∧ k (acc ++ [y])) else k acc) xs [] fun ts => Q (.lst ts) (.fr (d + 1))
  | .lc2 d it it2 cs cs2 e, env, Q => wpI it env fun xs => lcL (fun x acc k => wpC cs ((env.wipe (it.slots ++ it2.slots)).puts x) fun b =>
      if b = true then wpI it2 ((env.wipe (it.slots ++ it2.slots)).puts x) fun ys => lcL (fun y acc k => wpC cs2 ((((env.wipe (it.slots ++ it2.slots)).puts x).wipe it2.slots).puts y) fun b =>
        if b = true then wpE e ((((env.wipe (it.slots ++ it2.slots)).puts x).wipe it2.slots).puts y) fun z o => keep d z o (acc.length < sizeLine ∧ k (acc ++ [z])) else k acc) ys acc k
      else k acc) xs [] fun ts => Q (.lst ts) (.fr (d + 1))
def wpO : TO → Env → (Option Int → Prop) → Prop
  | .none, _, Q => Q none
  | .some e, env, Q => wpE e env fun x _ => asI x fun i => Q (some i)
def wpEs : TEs → Env → (List (T × Og) → Prop) → Prop
  | .nil, _, Q => Q []
  | .cons e es, env, Q => wpE e env fun x o => wpEs es env fun l => Q ((x, o) :: l)
def wpB : Bool → TEs → Env → T → Og → (T → Og → Prop) → Prop
  | _, .nil, _, x, o, Q => Q x o
  | and, .cons e es, env, x, _, Q => tru x fun b => if b = and then wpE e env fun y o' => wpB and es env y o' Q else Q (.bl b) (.bor 0)
def wpC : TEs → Env → (Bool → Prop) → Prop
  | .nil, _, Q => Q true
  | .cons e _, env, Q => wpE e env fun x _ => tru x Q
def wpI : It → Env → (List (List (Nat × Sl)) → Prop) → Prop
  | .seq i e, env, Q => wpE e env fun x o => seqT x o fun ts o' => Q (ts.map fun t => [(i, slOf t o')])
  | .rng i es, env, Q => wpEs es env fun l => rngT l fun a b => Q ((rgL a b).map fun k => [(i, .sh (.int k))])
  | .zip i j a b, env, Q => wpE a env fun x o => wpE b env fun y o' => seqT x o fun ts p => seqT y o' fun us p' => Q (zipS i j p p' ts us)
end

structure DT where
  nx : Env → Prop
  rt : T → Og → Prop
  bk : Env → Prop
  ct : Env → Prop
def lvT (env : Env) (i : Nat) (Q : Nat → Nat → T → List Nat → Prop) : Prop := match env.get i with
  | .ow d t => Q i d t []
  | .al r p => (match env.get r with
    | .ow d t => Q r d t p
    | _ => False)
  | _ => False
def nxtP (t : T) (d : Nat) (p : List Nat) (k : Int) (Q : List Nat → Prop) : Prop := p.length < d ∧ ∃ ts m, t.at p = some (.lst ts) ∧ ixN ts.length k = some m ∧ Q (p ++ [m])
/-- a place y[e1][e2].. within a list of one's own, its indexes from the last one on -/
def wpL (i : Nat) : TEs → Env → (Nat → Nat → T → List Nat → Prop) → Prop
  | .nil, env, Q => lvT env i Q
  | .cons e es, env, Q => wpL i es env fun r d t p => wpE Γ rd e env fun y _ => asI y fun k => nxtP t d p k fun p' => Q r d t p'
def unpT : T → Nat → (List T → Prop) → Prop
  | .tup ts, n, Q => ts.length = n ∧ Q ts
  | _, _, _ => False
def frzO : Og → Prop
  | .bor (_ + 1) => False
  | _ => True
def wpIS : It → Env → (List (List (Nat × Sl)) → Prop) → Prop
  | .seq i e, env, Q => wpE Γ rd e env fun x o => frzO o ∧ seqT x (.bor 0) fun ts o' => Q (ts.map fun t => [(i, slOf t o')])
  | .rng i es, env, Q => wpEs Γ rd es env fun l => rngT l fun a b => Q ((rgL a b).map fun k => [(i, .sh (.int k))])
  | .zip i j a b, env, Q => wpE Γ rd a env fun x o => wpE Γ rd b env fun y o' => frzO o ∧ frzO o' ∧ seqT x (.bor 0) fun ts p => seqT y (.bor 0) fun us p' => Q (zipS i j p p' ts us)
def wpWh (c : Env → (Bool → Prop) → Prop) (f : Env → (Env → Prop) → Prop) : Nat → Env → (Env → Prop) → Prop
  | 0, _, _ => False
  | n + 1, env, k => c env fun b => if b = true then f env (fun env' => wpWh c f n env' k) else k env
def wpAsg (env : Env) (i : Nat) (own : Option Nat) (t : T) (o : Og) (k : Env → Prop) : Prop := match own with
  | none => k (env.store i (slOf t o))
  | some d => (match o with
    | .fr e => e = d ∧ k (env.store i (.ow d t))
    | _ => False)
def wpRetV (env : Env) (i : Nat) (k : T → Og → Prop) : Prop := match env.get i with
  | .ow d t => k t (.fr d)
  | _ => False
def wpFrz (env : Env) (i : Nat) (k : Env → Prop) : Prop := match env.get i with
  | .ow _ t => k (env.store i (.sh t))
  | .al r p => (match env.get r with
    | .ow d t => p.length ≤ d ∧ ∃ t', t.at p = some t' ∧ k ((env.store r (.sh t)).store i (.sh t'))
    | _ => False)
  | _ => k env
def wpMv (env : Env) (r d n : Nat) (t : T) (p : List Nat) (ts : List T) (j : Nat) (k : Env → Prop) : Prop := match env.get j with
  | .ow e u => e = n ∧ j ≠ r ∧ k ((env.mut r p.length (.ow d (t.put p (.lst (ts ++ [u]))))).store j (.al r (p ++ [ts.length])))
  | _ => False
/-- self.f = t, in the making of an instance -/
def fstT (env : Env) (i : Nat) (C f : Str) (t : T) (k : Env → Prop) : Prop := match env.get i with
  | .slf C' ns ts => C' = C ∧ f ∉ ns ∧ ns.length = ts.length ∧ ns.length < 900 ∧ k (Env.put env i (.slf C (ns ++ [f]) (ts ++ [t])))
  | _ => False
mutual
def wpS : TS → Env → DT → Prop
  | .asg i own e, env, D => wpE Γ rd e env fun t o => wpAsg env i own t o D.nx
  | .ali i j es, env, D => wpL Γ rd j es env fun r d t p => i ≠ r ∧ D.nx (env.store i (.al r p))
  | .unp is e, env, D => wpE Γ rd e env fun x o => take x o (unpT x is.length fun ts => D.nx (env.puts (is.zip (ts.map .sh))))
  | .app i es e, env, D => wpL Γ rd i es env fun r d t p => ∃ ts, t.at p = some (.lst ts) ∧ p.length < d ∧ ts.length < sizeLine ∧
      wpE Γ rd e env fun v o => keep (d - p.length - 1) v o (D.nx (env.mut r p.length (.ow d (t.put p (.lst (ts ++ [v]))))))
  | .appMv i es j, env, D => wpL Γ rd i es env fun r d t p => ∃ ts, t.at p = some (.lst ts) ∧ p.length < d ∧ ts.length < sizeLine ∧
      wpMv env r d (d - p.length - 1) t p ts j D.nx
  | .sto i es k e, env, D => wpE Γ rd e env fun v o => wpL Γ rd i es env fun r d t p => wpE Γ rd k env fun y _ => asI y fun m =>
      ∃ ts n, t.at p = some (.lst ts) ∧ p.length < d ∧ ixN ts.length m = some n ∧
        keep (d - p.length - 1) v o (D.nx (env.mut r p.length (.ow d (t.put p (.lst (ts.set n v))))))
  | .frz i, env, D => wpFrz env i D.nx
  | .ex e, env, D => wpE Γ rd e env fun _ _ => D.nx env
  | .ite c a b, env, D => wpE Γ rd c env fun x _ => tru x fun k => if k = true then wpSs a env D else wpSs b env D
  | .whl c b, env, D => ∃ n, wpWh (fun env Q => wpE Γ rd c env fun x _ => tru x Q) (fun env k => wpSs b env { nx := k, rt := D.rt, bk := D.nx, ct := k }) n env D.nx
  | .for_ it b, env, D => wpIS Γ rd it env fun xs => forL (fun x env k => wpSs b (env.puts x) { nx := k, rt := D.rt, bk := D.nx, ct := k }) xs env D.nx
  | .forO i j b, env, D => (match env.get j with
    | .ow _ (.lst xs) => forO i j xs.length (fun env k => wpSs b env { nx := k, rt := D.rt, bk := D.nx, ct := k }) xs.length env D.nx
    | _ => False)
  | .forD i j es b, env, D => wpL Γ rd j es env fun r d t p => ∃ xs, t.at p = some (.lst xs) ∧ p.length + 1 < d ∧ env.all (fun s => !s.isBr) = true ∧
      forD i (d - p.length - 1) (fun env k => wpSs b env { nx := k, rt := D.rt, bk := D.nx, ct := k }) xs (env.store r .em) D.nx
  | .ret e, env, D => wpE Γ rd e env D.rt
  | .retV i, env, D => wpRetV env i D.rt
  | .retN, _, D => D.rt .non (.bor 0)
  | .brk, env, D => D.bk env
  | .cnt, env, D => D.ct env
  | .pas, env, D => D.nx env
  | .fgt is, env, D => D.nx (env.wipe is)
  | .fst i C f e, env, D => wpE Γ rd e env fun t o => take t o (fstT env i C f t D.nx)
  | .rse, _, _ => False
  | .yld _, _, _ => False
  | .forG i f es b, env, D => wpEs Γ rd es env fun l => takes l fun ts => Cl (Γ f ts fun t => seqT t (.bor 0) fun us _ => forL (fun x env k => wpSs b (env.puts x) { nx := k, rt := D.rt, bk := D.nx, ct := k }) (us.map fun t => [(i, .sh t)]) env D.nx)
def wpSs : TSs → Env → DT → Prop
  | .nil, env, D => D.nx env
  | .cons s r, env, D => wpS s env { D with nx := fun env' => wpSs r env' D }
end
end
/-- a slot that holds nothing of one's own -/
def Sl.frozen : Sl → Bool
  | .em => true
  | .sh _ => true
  | _ => false
/-- what stands behind a statement of a generator; the number: how many are out -/
structure DG where
  nx : Env → Nat → Prop
  rt : T → Nat → Prop
  bk : Env → Nat → Prop
  ct : Env → Nat → Prop
def DG.at (D : DG) (k : Nat) : DT := { nx := fun env => D.nx env k, rt := fun t _ => D.rt t k, bk := fun env => D.bk env k, ct := fun env => D.ct env k }
def wpWhG (c : Env → (Bool → Prop) → Prop) (f : Env → Nat → (Env → Nat → Prop) → Prop) : Nat → Env → Nat → (Env → Nat → Prop) → Prop
  | 0, _, _, _ => False
  | n + 1, env, k, K => c env fun b => if b = true then f env k (fun env' k' => wpWhG c f n env' k' K) else K env k
mutual
/-- hands out -/
def TS.hasY : TS → Bool
  | .yld _ => true
  | .ite _ a b => a.hasY || b.hasY
  | .whl _ b => b.hasY
  | _ => false
def TSs.hasY : TSs → Bool
  | .nil => false
  | .cons s r => s.hasY || r.hasY
end
mutual
/-- a generator's statement; zs: all that it hands out -/
def wpG (Γ : Gam) (rd : Nat → Nat) (zs : List T) : TS → Env → Nat → DG → Prop
  | .yld e, env, k, D => k < zs.length ∧ wpE Γ rd e env fun t o => take t o (zs[k]? = some t ∧ env.all Sl.frozen = true ∧ D.nx env (k + 1))
  | .ite c a b, env, k, D => if (a.hasY || b.hasY) = true then wpE Γ rd c env fun x _ => tru x fun q => if q = true then wpGs Γ rd zs a env k D else wpGs Γ rd zs b env k D else wpS Γ rd (.ite c a b) env (D.at k)
  | .whl c b, env, k, D => if b.hasY = true then ∃ n, wpWhG (fun env Q => wpE Γ rd c env fun x _ => tru x Q) (fun env k K => wpGs Γ rd zs b env k { nx := K, rt := D.rt, bk := D.nx, ct := K }) n env k D.nx else wpS Γ rd (.whl c b) env (D.at k)
  | s, env, k, D => wpS Γ rd s env (D.at k)
def wpGs (Γ : Gam) (rd : Nat → Nat) (zs : List T) : TSs → Env → Nat → DG → Prop
  | .nil, env, k, D => D.nx env k
  | .cons s r, env, k, D => wpG Γ rd zs s env k { D with nx := fun env' k' => wpGs Γ rd zs r env' k' D }
end
structure Def where
  name : Str
  ps : List Str
  N : List Str
  rd : Nat
  body : TSs
  /-- the making of an instance of this class -/
  ini : Option Str := none
  /-- a def whose promise is shown by hand -/
  pri : Option (List T → T → Prop) := none
  /-- a generator def -/
  isG : Bool := false
  /-- a parameter that is given away to it, and its depth -/
  own : Option (Nat × Nat) := none
def rdOk : Nat → Og → Prop
  | 0, _ => True
  | k + 1, .fr e => e = k + 1
  | _ + 1, .bor _ => False
def entry (N : Nat) (ts : List T) : Env := ts.map .sh ++ List.replicate (N - ts.length) .em
def entO (own : Option (Nat × Nat)) (env : Env) : Env := match own with
  | none => env
  | some (p, dp) => match env.get p with
    | .sh t => env.put p (.ow dp t)
    | _ => env
def wpDef (Γ : Gam) (rd : Nat → Nat) (d : Def) (ts : List T) (Q : T → Prop) : Prop :=
  ts.length = d.ps.length ∧ wpSs Γ rd d.body (entO d.own (entry d.N.length ts)) { nx := fun _ => d.rd = 0 ∧ Q .non, rt := fun t o => rdOk d.rd o ∧ Q t, bk := fun _ => False, ct := fun _ => False }
def iniEnd (D : Str) (env : Env) (Q : T → Prop) : Prop := match env.get 0 with
  | .slf C ns ts => C = D ∧ Q (.ins D ns ts)
  | _ => False
/-- C(..): its __init__, self ahead of the rest -/
def wpIni (Γ : Gam) (rd : Nat → Nat) (C : Str) (d : Def) (ts : List T) (Q : T → Prop) : Prop :=
  ts.length = d.ps.length ∧ wpSs Γ rd d.body (.slf C [] [] :: entry (d.N.length - 1) ts) { nx := fun env => iniEnd C env Q, rt := fun _ _ => False, bk := fun _ => False, ct := fun _ => False }
/-- a generator def hands out zs -/
def wpGen (Γ : Gam) (rd : Nat → Nat) (d : Def) (ts : List T) (zs : List T) : Prop :=
  ts.length = d.ps.length ∧ wpGs Γ rd zs d.body (entry d.N.length ts) 0 { nx := fun _ k => k = zs.length, rt := fun t k => t = .non ∧ k = zs.length, bk := fun _ _ => False, ct := fun _ _ => False }
def rdT (tbl : List Def) (f : Nat) : Nat := match tbl[f]? with
  | some d => d.rd
  | none => 0
def gam (tbl : List Def) : Nat → Gam
  | 0 => fun _ _ _ => False
  | n + 1 => fun f ts Q => match tbl[f]? with
    | some d => (match d.ini with
      | none => (match d.pri with
        | none => (match d.isG with
          | false => wpDef (gam tbl n) (rdT tbl) d ts Q
          | true => d.rd = 0 ∧ ∃ zs, wpGen (gam tbl n) (rdT tbl) d ts zs ∧ Q (.lst zs))
        | some R => 4 ≤ n ∧ d.rd = 0 ∧ ts.length = d.ps.length ∧ ∃ t, R ts t ∧ Q t)
      | some C => d.rd = 0 ∧ wpIni (gam tbl n) (rdT tbl) C d ts Q)
    | none => False
end PT

namespace PT
open PySem PySem.Spec PyProof.Rows L2
abbrev MQ (Q Q' : T → Og → Prop) : Prop := ∀ t o, Q t o → Q' t o
theorem take_mono {t : T} {og : Og} {k k' : Prop} (h : k → k') : take t og k → take t og k' := by
  cases og with
  | fr _ => exact h
  | bor d =>
    cases d with
    | zero => exact h
    | succ d => cases t <;> first | exact h | exact id
theorem keep_mono {d : Nat} {t : T} {og : Og} {k k' : Prop} (h : k → k') : keep d t og k → keep d t og k' := by
  cases d with
  | zero => exact take_mono h
  | succ d =>
    cases og with
    | fr e => cases t <;> first | exact h | exact And.imp id h
    | bor e => cases t <;> first | exact h | exact id
theorem takes_mono : ∀ {l : List (T × Og)} {Q Q' : List T → Prop}, (∀ ts, Q ts → Q' ts) → takes l Q → takes l Q'
  | [], _, _, h => h _
  | (t, o) :: r, _, _, h => take_mono (takes_mono fun ts => h _)
theorem keeps_mono {d : Nat} : ∀ {l : List (T × Og)} {Q Q' : List T → Prop}, (∀ ts, Q ts → Q' ts) → keeps d l Q → keeps d l Q'
  | [], _, _, h => h _
  | (t, o) :: r, _, _, h => keep_mono (keeps_mono fun ts => h _)
theorem bin_mono {op : BOp} {x y : T} {o o' : Og} {Q Q' : T → Og → Prop} (h : MQ Q Q') : binT op x o y o' Q → binT op x o y o' Q' := by
  cases op <;> cases x <;> first | exact id | (cases y <;> first | exact id | exact h _ _ | exact And.imp id (h _ _) | exact And.imp id (And.imp id (h _ _)) | exact And.imp id (And.imp id (And.imp id (h _ _))))
theorem cmp_mono {op : COp} {x y : T} {Q Q' : T → Og → Prop} (h : MQ Q Q') : cmpT op x y Q → cmpT op x y Q' := by
  cases op <;> cases x <;> first | exact id | exact h _ _ | (cases y <;> first | exact id | exact h _ _ | exact And.imp id (h _ _) | exact And.imp id (And.imp id (h _ _)) | exact And.imp id (And.imp id (And.imp id (h _ _))))
theorem idx_mono {x y : T} {o : Og} {Q Q' : T → Og → Prop} (h : MQ Q Q') : idxT x o y Q → idxT x o y Q' := by
  cases x <;> first | exact id | (cases y <;> first | exact id | (rintro ⟨t, a, b⟩; exact ⟨t, a, h _ _ b⟩))
theorem slc_mono {x : T} {o : Og} {l u : Option Int} {Q Q' : T → Og → Prop} (h : MQ Q Q') : slcT x o l u Q → slcT x o l u Q' := by
  cases x <;> first | exact id | exact h _ _ | exact And.imp id (h _ _)
theorem neg_mono {x : T} {Q Q' : T → Og → Prop} (h : MQ Q Q') : negT x Q → negT x Q' := by
  cases x <;> first | exact id | exact h _ _
theorem tru_mono {x : T} {Q Q' : Bool → Prop} (h : ∀ b, Q b → Q' b) : tru x Q → tru x Q' := by
  cases x <;> first | exact id | exact h _
theorem asI_mono {x : T} {Q Q' : Int → Prop} (h : ∀ b, Q b → Q' b) : asI x Q → asI x Q' := by
  cases x <;> first | exact id | exact h _
theorem asIs_mono : ∀ {l : List (T × Og)} {Q Q' : List Int → Prop}, (∀ b, Q b → Q' b) → asIs l Q → asIs l Q'
  | [], _, _, h => h _
  | (t, o) :: r, _, _, h => asI_mono fun i => asIs_mono fun l => h _
theorem isin_mono {x : T} {ks : List Kd} {Q Q' : T → Og → Prop} (h : MQ Q Q') : isinT x ks Q → isinT x ks Q' := by
  cases x <;> first | exact id | exact h _ _
theorem isc_mono {x : T} {D : Str} {oth : List Str} {Q Q' : T → Og → Prop} (h : MQ Q Q') : iscT x D oth Q → iscT x D oth Q' := by
  cases x <;> first | exact h _ _ | exact And.imp id (h _ _)
theorem fld_mono {x : T} {f : Str} {Q Q' : T → Og → Prop} (h : MQ Q Q') : fldT x f Q → fldT x f Q' := by
  cases x <;> first | exact id | (rintro ⟨t, a, b⟩; exact ⟨t, a, h _ _ b⟩)
theorem fldS_mono {env : Env} {i : Nat} {f : Str} {Q Q' : T → Og → Prop} (h : MQ Q Q') : fldS env i f Q → fldS env i f Q' := by
  unfold fldS
  split
  · rintro ⟨t, a, b⟩; exact ⟨t, a, h _ _ b⟩
  · exact id
theorem fst_mono {env : Env} {i : Nat} {C f : Str} {t : T} {k k' : Env → Prop} (h : ∀ e, k e → k' e) : fstT env i C f t k → fstT env i C f t k' := by
  unfold fstT
  split
  · exact And.imp id (And.imp id (And.imp id (And.imp id (h _))))
  · exact id
theorem gcd_mono {x y : T} {Q Q' : T → Og → Prop} (h : MQ Q Q') : gcdT x y Q → gcdT x y Q' := by
  cases x <;> cases y <;> first | exact id | exact h _ _
theorem rng_mono {l : List (T × Og)} {Q Q' : Int → Int → Prop} (h : ∀ a b, Q a b → Q' a b) : rngT l Q → rngT l Q' := by
  unfold rngT
  split
  · exact And.imp id (h _ _)
  · exact And.imp id (h _ _)
  · exact id
theorem seq_mono {x : T} {o : Og} {Q Q' : List T → Og → Prop} (h : ∀ a b, Q a b → Q' a b) : seqT x o Q → seqT x o Q' := by
  cases x <;> first | exact id | exact h _ _
theorem blt_mono {f : Blt} {l : List (T × Og)} {Q Q' : T → Og → Prop} (h : MQ Q Q') : bltT f l Q → bltT f l Q' := by
  cases f <;> simp only [bltT, lenT, absT, maxT, minT, sumT, allT, anyT, intT, tupT, lstT] <;> split <;> first | exact id | exact h _ _ | exact And.imp id (h _ _) | (rintro ⟨⟨l, a, b⟩, -⟩; exact ⟨⟨l, a, h _ _ b⟩, trivial⟩) | (rintro ⟨⟨l, a, b, c⟩, -⟩; exact ⟨⟨l, a, b, fun m x y => h _ _ (c m x y)⟩, trivial⟩)
theorem takF_mono {og : Og} {k k' : Prop} (h : k → k') : takF og k → takF og k' := by
  cases og with
  | fr _ => exact id
  | bor d => cases d <;> first | exact h | exact id
theorem taksF_mono : ∀ {l : List (T × Og)} {Q Q' : List T → Prop}, (∀ ts, Q ts → Q' ts) → taksF l Q → taksF l Q'
  | [], _, _, h => h _
  | (t, o) :: r, _, _, h => takF_mono (taksF_mono fun ts => h _)
theorem taksO_mono {dp : Nat} : ∀ {p : Nat} {l : List (T × Og)} {Q Q' : List T → Prop}, (∀ ts, Q ts → Q' ts) → taksO dp p l Q → taksO dp p l Q'
  | 0, [], _, _, h => id
  | p + 1, [], _, _, h => id
  | 0, (t, .fr e) :: r, _, _, h => And.imp_right (taksF_mono fun ts => h _)
  | 0, (t, .bor e) :: r, _, _, h => id
  | p + 1, (t, o) :: r, _, _, h => takF_mono (taksO_mono fun ts => h _)
theorem bw_mono {bw : Bool} {l : List (T × Og)} {Q Q' : List T → Prop} (h : ∀ ts, Q ts → Q' ts) : bwT bw l Q → bwT bw l Q' := by
  cases bw
  · exact takes_mono h
  · exact h _
theorem flatIf_mono {bw : Bool} {t : T} {k k' : Prop} (h : k → k') : flatIf bw t k → flatIf bw t k' := by
  cases bw
  · exact h
  · exact And.imp id h
theorem lcL_mono {f f' : List (Nat × Sl) → List T → (List T → Prop) → Prop} (hf : ∀ x acc k k', (∀ a, k a → k' a) → f x acc k → f' x acc k') : ∀ {xs : List (List (Nat × Sl))} {acc : List T} {Q Q' : List T → Prop}, (∀ a, Q a → Q' a) → lcL f xs acc Q → lcL f' xs acc Q'
  | [], _, _, _, h => h _
  | x :: xs, acc, _, _, h => hf x acc _ _ fun a => lcL_mono hf h
theorem forL_mono {f f' : List (Nat × Sl) → Env → (Env → Prop) → Prop} (hf : ∀ x env k k', (∀ a, k a → k' a) → f x env k → f' x env k') : ∀ {xs : List (List (Nat × Sl))} {env : Env} {Q Q' : Env → Prop}, (∀ a, Q a → Q' a) → forL f xs env Q → forL f' xs env Q'
  | [], _, _, _, h => h _
  | x :: xs, env, _, _, h => hf x env _ _ fun a => forL_mono hf h
theorem var_mono {env : Env} {i : Nat} {Q Q' : T → Og → Prop} (h : MQ Q Q') : varT env i Q → varT env i Q' := by
  unfold varT
  split
  · exact h _ _
  · exact h _ _
  · exact h _ _
  · split
    · rintro ⟨a, t, b, c⟩
      exact ⟨a, t, b, h _ _ c⟩
    · exact id
  · exact id
  · exact id
theorem ite_mono {b : Bool} {p q p' q' : Prop} (h : p → p') (h' : q → q') : (if b = true then p else q) → (if b = true then p' else q') := by
  cases b
  · exact h'
  · exact h

def Gam.Mono (Γ : Gam) : Prop := ∀ f ts (Q Q' : T → Prop), (∀ t, Q t → Q' t) → Γ f ts Q → Γ f ts Q'
section
variable {Γ : Gam} {rd : Nat → Nat} (M : Γ.Mono)
include M
mutual
theorem wpE_mono : ∀ (e : TE) (env : Env) (Q Q' : T → Og → Prop), MQ Q Q' → wpE Γ rd e env Q → wpE Γ rd e env Q'
  | .var i, env, Q, Q', h => by unfold wpE; exact var_mono h
  | .int i, _, Q, Q', h => by unfold wpE; exact h _ _
  | .bl b, _, Q, Q', h => by unfold wpE; exact h _ _
  | .non, _, Q, Q', h => by unfold wpE; exact h _ _
  | .str x, _, Q, Q', h => by unfold wpE; exact h _ _
  | .tup es, env, Q, Q', h => by unfold wpE; exact wpEs_mono es env _ _ fun l => takes_mono fun ts => And.imp id (h _ _)
  | .lst d es, env, Q, Q', h => by unfold wpE; exact wpEs_mono es env _ _ fun l => keeps_mono fun ts => And.imp id (h _ _)
  | .bin op a b, env, Q, Q', h => by unfold wpE; exact wpE_mono a env _ _ fun x o => wpE_mono b env _ _ fun y o' => bin_mono h
  | .neg a, env, Q, Q', h => by unfold wpE; exact wpE_mono a env _ _ fun x o => neg_mono h
  | .cmp op a b, env, Q, Q', h => by unfold wpE; exact wpE_mono a env _ _ fun x o => wpE_mono b env _ _ fun y o' => cmp_mono h
  | .bop and e es, env, Q, Q', h => by unfold wpE; exact wpE_mono e env _ _ fun x o => wpB_mono and es env x o _ _ h
  | .not a, env, Q, Q', h => by unfold wpE; exact wpE_mono a env _ _ fun x o => tru_mono fun b => h _ _
  | .ife c a b, env, Q, Q', h => by unfold wpE; exact wpE_mono c env _ _ fun x o => tru_mono fun k => ite_mono (wpE_mono a env _ _ h) (wpE_mono b env _ _ h)
  | .idx a i, env, Q, Q', h => by unfold wpE; exact wpE_mono a env _ _ fun x o => wpE_mono i env _ _ fun y o' => idx_mono h
  | .slc a lo hi, env, Q, Q', h => by unfold wpE; exact wpE_mono a env _ _ fun x o => wpO_mono lo env _ _ fun l => wpO_mono hi env _ _ fun u => slc_mono h
  | .call f bw dv es, env, Q, Q', h => by unfold wpE; exact wpEs_mono es env _ _ fun l => bw_mono fun ts q => ⟨M _ _ _ _ (fun t => flatIf_mono (h _ _)) q.go, trivial⟩
  | .callK f bw ord es ks, env, Q, Q', h => by unfold wpE; exact wpEs_mono es env _ _ fun l => bw_mono fun ts => wpEs_mono ks env _ _ fun l' => bw_mono fun us q => ⟨M _ _ _ _ (fun t => flatIf_mono (h _ _)) q.go, trivial⟩
  | .callO f p dp es, env, Q, Q', h => by unfold wpE; exact wpEs_mono es env _ _ fun l => taksO_mono fun ts q => ⟨M _ _ _ _ (fun t => h _ _) q.go, trivial⟩
  | .callB f es, env, Q, Q', h => by unfold wpE; exact wpEs_mono es env _ _ fun l q => ⟨M _ _ _ _ (fun t => And.imp_right (h _ _)) q.go, trivial⟩
  | .blt f es, env, Q, Q', h => by unfold wpE; exact wpEs_mono es env _ _ fun l => blt_mono h
  | .gcd a b, env, Q, Q', h => by unfold wpE; exact wpE_mono a env _ _ fun x o => wpE_mono b env _ _ fun y o' => gcd_mono h
  | .isin e ks, env, Q, Q', h => by unfold wpE; exact wpE_mono e env _ _ fun x o => isin_mono h
  | .isc e D oth, env, Q, Q', h => by unfold wpE; exact wpE_mono e env _ _ fun x o => isc_mono h
  | .fld e f, env, Q, Q', h => by unfold wpE; exact wpE_mono e env _ _ fun x o => fld_mono h
  | .fldS i f, env, Q, Q', h => by unfold wpE; exact fldS_mono h
  | .lrng es, env, Q, Q', h => by unfold wpE; exact wpEs_mono es env _ _ fun l => rng_mono fun a b => And.imp id (h _ _)
  | .lc d it cs e, env, Q, Q', h => by
    unfold wpE
    refine wpI_mono it env _ _ fun xs => ?_
    refine lcL_mono (fun x acc k k' hk => ?_) (fun ts => h _ _)
    refine wpC_mono cs _ _ _ fun b => ?_
    refine ite_mono ?_ (hk _)
    exact wpE_mono e _ _ _ fun y o => keep_mono (And.imp id (hk _))
  | .lc2 d it it2 cs cs2 e, env, Q, Q', h => by
    unfold wpE
    refine wpI_mono it env _ _ fun xs => ?_
    refine lcL_mono (fun x acc k k' hk => ?_) (fun ts => h _ _)
    refine wpC_mono cs _ _ _ fun b => ?_
    refine ite_mono ?_ (hk _)
    refine wpI_mono it2 _ _ _ fun ys => ?_
    refine lcL_mono (fun x acc k k' hk => ?_) hk
    refine wpC_mono cs2 _ _ _ fun b => ?_
    refine ite_mono ?_ (hk _)
    exact wpE_mono e _ _ _ fun y o => keep_mono (And.imp id (hk _))
theorem wpO_mono : ∀ (e : TO) (env : Env) (Q Q' : Option Int → Prop), (∀ x, Q x → Q' x) → wpO Γ rd e env Q → wpO Γ rd e env Q'
  | .none, _, Q, Q', h => by unfold wpO; exact h _
  | .some e, env, Q, Q', h => by unfold wpO; exact wpE_mono e env _ _ fun x o => asI_mono fun i => h _
theorem wpEs_mono : ∀ (e : TEs) (env : Env) (Q Q' : List (T × Og) → Prop), (∀ x, Q x → Q' x) → wpEs Γ rd e env Q → wpEs Γ rd e env Q'
  | .nil, _, Q, Q', h => by unfold wpEs; exact h _
  | .cons e es, env, Q, Q', h => by unfold wpEs; exact wpE_mono e env _ _ fun x o => wpEs_mono es env _ _ fun l => h _
theorem wpB_mono : ∀ (and : Bool) (e : TEs) (env : Env) (x : T) (o : Og) (Q Q' : T → Og → Prop), MQ Q Q' → wpB Γ rd and e env x o Q → wpB Γ rd and e env x o Q'
  | _, .nil, _, x, o, Q, Q', h => by unfold wpB; exact h _ _
  | and, .cons e es, env, x, o, Q, Q', h => by
    unfold wpB
    exact tru_mono fun b hb => by
      by_cases q : b = and
      · rw [if_pos q] at hb ⊢
        exact wpE_mono e env _ _ (fun y o' => wpB_mono and es env y o' _ _ h) hb
      · rw [if_neg q] at hb ⊢
        exact h _ _ hb
theorem wpC_mono : ∀ (e : TEs) (env : Env) (Q Q' : Bool → Prop), (∀ x, Q x → Q' x) → wpC Γ rd e env Q → wpC Γ rd e env Q'
  | .nil, _, Q, Q', h => by unfold wpC; exact h _
  | .cons e _, env, Q, Q', h => by unfold wpC; exact wpE_mono e env _ _ fun x o => tru_mono h
theorem wpI_mono : ∀ (it : It) (env : Env) (Q Q' : List (List (Nat × Sl)) → Prop), (∀ x, Q x → Q' x) → wpI Γ rd it env Q → wpI Γ rd it env Q'
  | .seq i e, env, Q, Q', h => by
    unfold wpI
    refine wpE_mono e env _ _ fun x o => ?_
    refine seq_mono fun ts o' => ?_
    exact h _
  | .rng i es, env, Q, Q', h => by
    unfold wpI
    refine wpEs_mono es env _ _ fun l => ?_
    refine rng_mono fun a b => ?_
    exact h _
  | .zip i j a b, env, Q, Q', h => by
    unfold wpI
    refine wpE_mono a env _ _ fun x o => ?_
    refine wpE_mono b env _ _ fun y o' => ?_
    refine seq_mono fun ts p => ?_
    refine seq_mono fun us p' => ?_
    exact h _
end
theorem wpIS_mono : ∀ (it : It) (env : Env) (Q Q' : List (List (Nat × Sl)) → Prop), (∀ x, Q x → Q' x) → wpIS Γ rd it env Q → wpIS Γ rd it env Q'
  | .seq i e, env, Q, Q', h => by
    unfold wpIS
    refine wpE_mono M e env _ _ fun x o => ?_
    refine And.imp id ?_
    refine seq_mono fun ts o' => ?_
    exact h _
  | .rng i es, env, Q, Q', h => by
    unfold wpIS
    refine wpEs_mono M es env _ _ fun l => ?_
    refine rng_mono fun a b => ?_
    exact h _
  | .zip i j a b, env, Q, Q', h => by
    unfold wpIS
    refine wpE_mono M a env _ _ fun x o => ?_
    refine wpE_mono M b env _ _ fun y o' => ?_
    refine And.imp id (And.imp id ?_)
    refine seq_mono fun ts p => ?_
    refine seq_mono fun us p' => ?_
    exact h _
omit M
theorem lv_mono {env : Env} {i : Nat} {Q Q' : Nat → Nat → T → List Nat → Prop} (h : ∀ a b c d, Q a b c d → Q' a b c d) : lvT env i Q → lvT env i Q' := by
  unfold lvT
  split
  · exact h _ _ _ _
  · split
    · exact h _ _ _ _
    · exact id
  · exact id
theorem asg_mono {env : Env} {i : Nat} {own : Option Nat} {t : T} {o : Og} {k k' : Env → Prop} (h : ∀ e, k e → k' e) : wpAsg env i own t o k → wpAsg env i own t o k' := by
  cases own with
  | none => exact h _
  | some d => cases o <;> first | exact id | exact And.imp id (h _)
theorem retV_mono {env : Env} {i : Nat} {k k' : T → Og → Prop} (h : MQ k k') : wpRetV env i k → wpRetV env i k' := by
  unfold wpRetV
  split
  · exact h _ _
  · exact id
theorem frz_mono {env : Env} {i : Nat} {k k' : Env → Prop} (h : ∀ e, k e → k' e) : wpFrz env i k → wpFrz env i k' := by
  unfold wpFrz
  split
  · exact h _
  · split
    · rintro ⟨a, t, b, c⟩
      exact ⟨a, t, b, h _ c⟩
    · exact id
  · exact h _
theorem mv_mono {env : Env} {r d n : Nat} {t : T} {p : List Nat} {ts : List T} {j : Nat} {k k' : Env → Prop} (h : ∀ e, k e → k' e) : wpMv env r d n t p ts j k → wpMv env r d n t p ts j k' := by
  unfold wpMv
  split
  · exact And.imp id (And.imp id (h _))
  · exact id
theorem unp_mono {t : T} {n : Nat} {Q Q' : List T → Prop} (h : ∀ ts, Q ts → Q' ts) : unpT t n Q → unpT t n Q' := by
  cases t <;> first | exact id | exact And.imp id (h _)
theorem wh_mono {c c' : Env → (Bool → Prop) → Prop} {f f' : Env → (Env → Prop) → Prop} (hc : ∀ env k k', (∀ b, k b → k' b) → c env k → c' env k') (hf : ∀ env k k', (∀ b, k b → k' b) → f env k → f' env k') : ∀ {n : Nat} {env : Env} {k k' : Env → Prop}, (∀ e, k e → k' e) → wpWh c f n env k → wpWh c' f' n env k'
  | 0, _, _, _, _ => id
  | n + 1, env, k, k', h => hc env _ _ fun b => ite_mono (hf env _ _ fun e => wh_mono hc hf h) (h env)
theorem forD_mono {i d : Nat} {f f' : Env → (Env → Prop) → Prop} (hf : ∀ env k k', (∀ b, k b → k' b) → f env k → f' env k') : ∀ {xs : List T} {env : Env} {k k' : Env → Prop}, (∀ e, k e → k' e) → forD i d f xs env k → forD i d f' xs env k'
  | [], env, k, k', h, q => h _ q
  | t :: ts, env, k, k', h, q => hf _ _ _ (fun e => forD_mono hf h) q
theorem forO_mono {i j len : Nat} {f f' : Env → (Env → Prop) → Prop} (hf : ∀ env k k', (∀ b, k b → k' b) → f env k → f' env k') : ∀ {n : Nat} {env : Env} {k k' : Env → Prop}, (∀ e, k e → k' e) → forO i j len f n env k → forO i j len f' n env k'
  | 0, env, k, k', h => by
    unfold forO
    split
    · exact And.imp id (h _)
    · exact id
  | n + 1, env, k, k', h => by
    unfold forO
    split
    · refine And.imp id ?_
      split
      · exact hf _ _ _ fun e => forO_mono hf h
      · rintro ⟨t, a, b⟩
        exact ⟨t, a, hf _ _ _ (fun e => forO_mono hf h) b⟩
    · exact id
theorem nxt_mono {t : T} {d : Nat} {p : List Nat} {k : Int} {Q Q' : List Nat → Prop} (h : ∀ p, Q p → Q' p) : nxtP t d p k Q → nxtP t d p k Q' := by
  rintro ⟨a, ts, m, b, c, q⟩
  exact ⟨a, ts, m, b, c, h _ q⟩
include M in
theorem wpL_mono (i : Nat) : ∀ (es : TEs) (env : Env) (Q Q' : Nat → Nat → T → List Nat → Prop), (∀ a b c d, Q a b c d → Q' a b c d) → wpL Γ rd i es env Q → wpL Γ rd i es env Q'
  | .nil, env, Q, Q', h => by unfold wpL; exact lv_mono h
  | .cons e es, env, Q, Q', h => by
    unfold wpL
    exact wpL_mono i es env _ _ fun r d t p => wpE_mono M e env _ _ fun y _ => asI_mono fun k => nxt_mono fun p' => h _ _ _ _
structure DT.Le (D D' : DT) : Prop where
  nx : ∀ e, D.nx e → D'.nx e
  rt : MQ D.rt D'.rt
  bk : ∀ e, D.bk e → D'.bk e
  ct : ∀ e, D.ct e → D'.ct e
include M
mutual
theorem wpS_mono : ∀ (s : TS) (env : Env) (D D' : DT), D.Le D' → wpS Γ rd s env D → wpS Γ rd s env D'
  | .asg i own e, env, D, D', h => by unfold wpS; exact wpE_mono M e env _ _ fun t o => asg_mono h.nx
  | .ali i j es, env, D, D', h => by
    unfold wpS
    exact wpL_mono M j es env _ _ fun r d t p => And.imp id (h.nx _)
  | .unp is e, env, D, D', h => by unfold wpS; exact wpE_mono M e env _ _ fun t o => take_mono (unp_mono fun ts => h.nx _)
  | .app i es e, env, D, D', h => by
    unfold wpS
    refine wpL_mono M i es env _ _ fun r d t p => ?_
    rintro ⟨ts, a, b, c, q⟩
    exact ⟨ts, a, b, c, wpE_mono M e env _ _ (fun v o => keep_mono (h.nx _)) q⟩
  | .appMv i es j, env, D, D', h => by
    unfold wpS
    refine wpL_mono M i es env _ _ fun r d t p => ?_
    rintro ⟨ts, a, b, c, q⟩
    exact ⟨ts, a, b, c, mv_mono h.nx q⟩
  | .sto i es k e, env, D, D', h => by
    unfold wpS
    refine wpE_mono M e env _ _ fun v o => ?_
    refine wpL_mono M i es env _ _ fun r d t p => ?_
    refine wpE_mono M k env _ _ fun y _ => asI_mono fun m => ?_
    rintro ⟨ts, n, a, b, c, q⟩
    exact ⟨ts, n, a, b, c, keep_mono (h.nx _) q⟩
  | .frz i, env, D, D', h => by unfold wpS; exact frz_mono h.nx
  | .ex e, env, D, D', h => by unfold wpS; exact wpE_mono M e env _ _ fun t o => h.nx _
  | .ite c a b, env, D, D', h => by unfold wpS; exact wpE_mono M c env _ _ fun t o => tru_mono fun k => ite_mono (wpSs_mono a env D D' h) (wpSs_mono b env D D' h)
  | .whl c b, env, D, D', h => by
    unfold wpS
    rintro ⟨n, q⟩
    refine ⟨n, wh_mono (fun env k k' hk => ?_) (fun env k k' hk => ?_) h.nx q⟩
    · exact wpE_mono M c env _ _ fun x _ => tru_mono hk
    · exact wpSs_mono b env { nx := k, rt := D.rt, bk := D.nx, ct := k } { nx := k', rt := D'.rt, bk := D'.nx, ct := k' } ⟨hk, h.rt, h.nx, hk⟩
  | .for_ it b, env, D, D', h => by
    unfold wpS
    refine wpIS_mono M it env _ _ fun xs => ?_
    refine forL_mono (fun x env k k' hk => ?_) h.nx
    exact wpSs_mono b _ { nx := k, rt := D.rt, bk := D.nx, ct := k } { nx := k', rt := D'.rt, bk := D'.nx, ct := k' } ⟨hk, h.rt, h.nx, hk⟩
  | .forO i j b, env, D, D', h => by
    unfold wpS
    split
    · refine forO_mono (fun env k k' hk => ?_) h.nx
      exact wpSs_mono b _ { nx := k, rt := D.rt, bk := D.nx, ct := k } { nx := k', rt := D'.rt, bk := D'.nx, ct := k' } ⟨hk, h.rt, h.nx, hk⟩
    · exact id
  | .forD i j es b, env, D, D', h => by
    unfold wpS
    refine wpL_mono M j es env _ _ fun r d t p => ?_
    rintro ⟨xs, a, b', c, q⟩
    refine ⟨xs, a, b', c, forD_mono (fun env k k' hk => ?_) h.nx q⟩
    exact wpSs_mono b _ { nx := k, rt := D.rt, bk := D.nx, ct := k } { nx := k', rt := D'.rt, bk := D'.nx, ct := k' } ⟨hk, h.rt, h.nx, hk⟩
  | .ret e, env, D, D', h => by unfold wpS; exact wpE_mono M e env _ _ h.rt
  | .retV i, env, D, D', h => by unfold wpS; exact retV_mono h.rt
  | .retN, _, D, D', h => by unfold wpS; exact h.rt _ _
  | .brk, env, D, D', h => by unfold wpS; exact h.bk _
  | .cnt, env, D, D', h => by unfold wpS; exact h.ct _
  | .pas, env, D, D', h => by unfold wpS; exact h.nx _
  | .rse, env, D, D', h => by unfold wpS; exact id
  | .yld e, env, D, D', h => by unfold wpS; exact id
  | .forG i f es b, env, D, D', h => by
    unfold wpS
    refine wpEs_mono M es env _ _ fun l => takes_mono fun ts => ?_
    rintro ⟨q, _⟩
    refine ⟨M f ts _ _ (fun t => seq_mono fun us _ => ?_) q, trivial⟩
    refine forL_mono (fun x env k k' hk => ?_) h.nx
    exact wpSs_mono b _ { nx := k, rt := D.rt, bk := D.nx, ct := k } { nx := k', rt := D'.rt, bk := D'.nx, ct := k' } ⟨hk, h.rt, h.nx, hk⟩
  | .fgt is, env, D, D', h => by unfold wpS; exact h.nx _
  | .fst i C f e, env, D, D', h => by unfold wpS; exact wpE_mono M e env _ _ fun t o => take_mono (fst_mono h.nx)
theorem wpSs_mono : ∀ (s : TSs) (env : Env) (D D' : DT), D.Le D' → wpSs Γ rd s env D → wpSs Γ rd s env D'
  | .nil, env, D, D', h => by unfold wpSs; exact h.nx _
  | .cons s r, env, D, D', h => by unfold wpSs; exact wpS_mono s env _ _ ⟨fun env' => wpSs_mono r env' D D' h, h.rt, h.bk, h.ct⟩
end
omit M
end
theorem gam_mono (tbl : List Def) : ∀ n, (gam tbl n).Mono
  | 0 => fun _ _ _ _ _ => id
  | n + 1 => fun f ts Q Q' h => by
    unfold gam
    split
    · split
      · split
        · split
          · exact And.imp id (wpSs_mono (gam_mono tbl n) _ _ _ _ ⟨fun _ => And.imp id (h _), fun t o => And.imp id (h _), fun _ => id, fun _ => id⟩)
          · exact fun ⟨h1, zs, h2, h3⟩ => ⟨h1, zs, h2, h _ h3⟩
        · exact fun ⟨h1, h2, h3, t, h4, h5⟩ => ⟨h1, h2, h3, t, h4, h _ h5⟩
      · refine And.imp id (And.imp id (wpSs_mono (gam_mono tbl n) _ _ _ _ ⟨fun env => ?_, fun t o => id, fun _ => id, fun _ => id⟩))
        show iniEnd _ env Q → iniEnd _ env Q'
        unfold iniEnd
        split
        · exact And.imp id (h _)
        · exact id
    · exact id
end PT

namespace PT
open PySem PySem.Spec PyProof.Rows L2

/-! ### slots and values as they stand -/
def SlR (K : PySem.W.Frag) (He H0 H : Hp) (σ : L2.St) (env : Env) (i : Nat) (fp : List Addr) : Sl → Prop
  | .em => fp = []
  | .sh t => fp = [] ∧ ∃ v, σ[i]? = some (some v) ∧ Rep K H0 t v
  | .ow d t => ∃ v, σ[i]? = some (some v) ∧ Own K H0 H d t v fp
  | .br d t => fp = [] ∧ ∃ v f, σ[i]? = some (some v) ∧ Own K H0 H d t v f ∧ ∀ a ∈ f, He a = none
  | .slf C ns ts => ∃ a dx vs, fp = [a] ∧ σ[i]? = some (some (.ref a)) ∧ H a = some (.ins (gaC K C) dx (ns.zip vs)) ∧ ns.length = vs.length ∧ ClsOk K C ns ∧ Reps K H0 ts vs
  | .al r p => fp = [] ∧ ∃ v vr d t, σ[i]? = some (some v) ∧ σ[r]? = some (some vr) ∧ env.get r = .ow d t ∧ NodeAt H vr p v ∧ p.length ≤ d ∧ (t.at p).isSome = true
structure StR (K : PySem.W.Frag) (pn : List (Nat × V)) (He H0e H0 H : Hp) (σ : L2.St) (env : Env) (fps : Nat → List Addr) : Prop where
  ext : Ext H0e He H0 H
  len : env.length = σ.length
  slot : ∀ i, SlR K He H0 H σ env i (fps i) (env.get i)
  nd : ∀ i, (fps i).Nodup
  dj : ∀ i j a, i ≠ j → a ∈ fps i → a ∉ fps j
  out : ∀ i a, a ∈ fps i → H0 a = none ∧ He a = none
  pin : ∀ q ∈ pn, σ[q.1]? = some (some q.2)
def VR (K : PySem.W.Frag) (He H H0' H' : Hp) : Og → T → V → Prop
  | .bor d, t, v => ∃ f, Own K H0' H' d t v f ∧ ∀ a ∈ f, He a = none
  | .fr d, t, v => ∃ f, Own K H0' H' d t v f ∧ f.Nodup ∧ ∀ a ∈ f, H a = none ∧ H0' a = none

section
variable {pn : List (Nat × V)} {K : PySem.W.Frag} {He H0e H0 H H0' H' H0'' H'' : Hp} {σ : L2.St} {env : Env} {fps : Nat → List Addr} {t : T} {v : V} {o : Og} {d : Nat}
theorem Own.ext {f : List Addr} (x : Ext H0 H H0' H') (h : Own K H0 H d t v f) : Own K H0' H' d t v f :=
  own_imp x.s0 d t v f (fun a ha => by
    obtain ⟨xs, e⟩ := own_in d t v f h a ha
    rw [e, x.s a _ e]) h
theorem StR.mono (S : StR K pn He H0e H0 H σ env fps) (x : Ext H0 H H0' H') : StR K pn He H0e H0' H' σ env fps := by
  refine ⟨S.ext.trans x, S.len, fun i => ?_, S.nd, S.dj, fun i a ha => ?_, S.pin⟩
  · have q := S.slot i
    revert q
    cases env.get i with
    | em => exact id
    | sh t => exact fun ⟨a, v, b, c⟩ => ⟨a, v, b, rep_mono x.s0 t v c⟩
    | ow d t => exact fun ⟨v, b, c⟩ => ⟨v, b, c.ext x⟩
    | br d t => exact fun ⟨a, v, f, b, c, e⟩ => ⟨a, v, f, b, c.ext x, e⟩
    | al r p => exact fun ⟨a, v, vr, d, t, b, c, e, n, l, z⟩ => ⟨a, v, vr, d, t, b, c, e, n.mono x.s, l, z⟩
    | slf C ns ts => exact fun ⟨a, dx, vs, b, c, e, n, l, z⟩ => ⟨a, dx, vs, b, c, x.s _ _ e, n, l, reps_mono x.s0 ts vs z⟩
  · have q := S.slot i
    revert q ha
    cases env.get i with
    | em => intro ha q; rw [show fps i = [] from q] at ha; cases ha
    | sh t => intro ha q; rw [q.1] at ha; cases ha
    | br d t => intro ha q; rw [q.1] at ha; cases ha
    | al r p => intro ha q; rw [q.1] at ha; cases ha
    | slf C ns ts =>
      intro ha q
      obtain ⟨b, dx, vs, e1, _, e, _⟩ := q
      have hb := S.out i a ha
      rw [e1] at ha
      have ab := List.mem_singleton.mp ha
      subst ab
      exact ⟨(x.nw a _ e).trans hb.1, hb.2⟩
    | ow d t =>
      intro ha q
      obtain ⟨v, b, c⟩ := q
      obtain ⟨xs, e⟩ := own_in d t v _ c a ha
      exact ⟨(x.nw a _ e).trans (S.out i a ha).1, (S.out i a ha).2⟩
theorem StR.unpin (S : StR K pn He H0e H0 H σ env fps) : StR K [] He H0e H0 H σ env fps := ⟨S.ext, S.len, S.slot, S.nd, S.dj, S.out, fun q hq => by cases hq⟩
theorem StR.heH (S : StR K pn He H0e H0 H σ env fps) : Same He H := S.ext.s
theorem StR.le (S : StR K pn He H0e H0 H σ env fps) : Same H0 H := S.ext.le
theorem VR.ext (r : VR K He H H0' H' o t v) (x : Ext H0' H' H0'' H'') : VR K He H H0'' H'' o t v := by
  cases o with
  | bor d =>
    obtain ⟨f, a, b⟩ := r
    exact ⟨f, a.ext x, b⟩
  | fr d =>
    obtain ⟨f, a, b, c⟩ := r
    refine ⟨f, a.ext x, b, fun y hy => ⟨(c y hy).1, ?_⟩⟩
    obtain ⟨xs, e⟩ := own_in d t v f a y hy
    exact (x.nw y _ e).trans (c y hy).2
/-- the base of a value's newness moved back -/
theorem VR.base {Hb : Hp} (r : VR K He H H0' H' o t v) (s : Same Hb H) : VR K He Hb H0' H' o t v := by
  cases o with
  | bor d => exact r
  | fr d =>
    obtain ⟨f, a, b, c⟩ := r
    exact ⟨f, a, b, fun y hy => ⟨s.free (c y hy).1, (c y hy).2⟩⟩
theorem VR.here (r : VR K He H H0' H' o t v) (le : Same H0' H') : Rep K H' t v := by
  cases o with
  | bor d =>
    obtain ⟨f, a, b⟩ := r
    exact own_here le a
  | fr d =>
    obtain ⟨f, a, b, c⟩ := r
    exact own_here le a
theorem VR.flat (h : Rep K H0' t v) : VR K He H H0' H' (.bor 0) t v := ⟨[], ⟨rfl, h⟩, fun a ha => by cases ha⟩
/-- all that is new is frozen -/
def frzN (H H0' H' : Hp) : Hp := fun a => match H a with
  | none => H' a
  | some _ => H0' a
theorem frzN_new {a : Addr} (h : H a = none) : frzN H H0' H' a = H' a := by
  unfold frzN
  rw [h]
theorem frzN_old {a : Addr} {o : HO} (h : H a = some o) : frzN H H0' H' a = H0' a := by
  unfold frzN
  rw [h]
theorem same_frzN (le : Same H0' H') : Same H0' (frzN H H0' H') := fun a o e => by
  cases q : H a with
  | none => rw [frzN_new q]; exact le a o e
  | some u => rw [frzN_old q]; exact e
theorem frzN_same (le : Same H0' H') : Same (frzN H H0' H') H' := fun a o e => by
  cases q : H a with
  | none => rw [frzN_new q] at e; exact e
  | some u => rw [frzN_old q] at e; exact le a o e
theorem Ext.frzN (x : Ext H0 H H0' H') : Ext H0 H (frzN H H0' H') H' :=
  ⟨x.s, x.s0.trans (same_frzN x.le), frzN_same x.le, fun a o e => (frzN_old e).trans (x.nw a o e)⟩
theorem VR.taken {k : Prop} (x : Ext H0 H H0' H') (r : VR K He H H0' H' o t v) (h : take t o k) : k ∧ Rep K (PT.frzN H H0' H') t v := by
  cases o with
  | fr d =>
    obtain ⟨f, a, b, c⟩ := r
    exact ⟨h, own_rep (same_frzN x.le) d t v f (fun y hy => frzN_new (c y hy).1) a⟩
  | bor d =>
    obtain ⟨f, a, b⟩ := r
    cases d with
    | zero => exact ⟨h, rep_mono (same_frzN x.le) t v a.2⟩
    | succ d =>
      cases t with
      | lst ts => exact h.elim
      | _ => exact ⟨h, rep_mono (same_frzN x.le) _ v (flat_own rfl a).2⟩
/-- a list whose items are frozen, or new -/
theorem VR.items {ts : List T} (x : Ext H0 H H0' H') (r : VR K He H H0' H' o (.lst ts) v) (h : o.shal ∨ ts.all (fun t => !t.isLst) = true) : ∃ a vs, v = .ref a ∧ H' a = some (.lst vs) ∧ Reps K (PT.frzN H H0' H') ts vs := by
  cases o with
  | fr d =>
    obtain ⟨f, a, b, c⟩ := r
    have q := own_rep (same_frzN x.le) d _ v f (fun y hy => frzN_new (c y hy).1) a
    unfold Rep at q
    obtain ⟨a, vs, e1, e2, e3⟩ := q
    exact ⟨a, vs, e1, frzN_same x.le a _ e2, e3⟩
  | bor d =>
    obtain ⟨f, a, b⟩ := r
    cases d with
    | zero =>
      have q := a.2
      unfold Rep at q
      obtain ⟨a, vs, e1, e2, e3⟩ := q
      exact ⟨a, vs, e1, x.le a _ e2, reps_mono (same_frzN x.le) ts vs e3⟩
    | succ d =>
      cases d with
      | zero =>
        obtain ⟨a, vs, g, e1, e2, e3, o⟩ := a
        exact ⟨a, vs, e1, e2, o.reps fun t v f _ q => rep_mono (same_frzN x.le) t v q.2⟩
      | succ d =>
        rcases h with h | h
        · exact h.elim
        · obtain ⟨a, vs, g, e1, e2, e3, o⟩ := own_flatL (e := 0) (by omega) h a
          exact ⟨a, vs, e1, e2, o.reps fun t v f _ q => rep_mono (same_frzN x.le) t v q.2⟩
/-- a new object that is frozen at once -/
theorem Ext.newF (x : Ext H0 H H0' H') {p : Addr} {o : HO} (h : H' p = none) : Ext H0 H (upd H0' p o) (upd H' p o) := by
  have h0 : H0' p = none := x.le.free h
  have hb : H p = none := x.s.free h
  refine ⟨fun a u q => by rw [upd_ne (ne_of_none (x.s a u q) h)]; exact x.s a u q, fun a u q => ?_, fun a u q => ?_, fun a u q => ?_⟩
  · rw [upd_ne (ne_of_none (x.s0 a u q) h0)]; exact x.s0 a u q
  · by_cases e : a = p
    · subst e; rw [upd_same] at q ⊢; exact q
    · rw [upd_ne e] at q ⊢; exact x.le a u q
  · rw [upd_ne (ne_of_none q hb)]; exact x.nw a u q
theorem same_upd {p : Addr} {o : HO} (h : H p = none) : Same H (upd H p o) := fun a u q => by rw [upd_ne (ne_of_none q h)]; exact q
/-- a new list, one's own, of frozen items -/
theorem VR.newL {ts : List T} {vs : List V} {p : Addr} (x : Ext H0 H H0' H') (hp : H' p = none) (r : Reps K H0' ts vs) : VR K He H H0' (upd H' p (.lst vs)) (.fr 1) (.lst ts) (.ref p) :=
  ⟨[p], ⟨p, vs, [], rfl, upd_same, rfl, Owns.of_reps r fun t v q _ => ⟨rfl, q⟩⟩, by simp, fun a ha => by
    have e : a = p := by simpa using ha
    subst e
    exact ⟨x.s.free hp, x.le.free hp⟩⟩
end
end PT

/-! G0: what a run does not wake stays asleep. A run beside sleepers that cannot be woken is a run beside the real ones, and leaves them as they are. -/
namespace PT
open PySem
open Sem (wp)
def flatF : Frame → Frame
  | .ret _ h g l c p kp => .ret (fun _ => .unsupported "") h g l c p kp
  | .gen _ _ l c p => .ret (fun _ => .unsupported "") none false l c p []
theorem flatF_where (f : Frame) : (flatF f).where_ = f.where_ := by cases f <;> rfl
def poison : GenState → GenState
  | .suspended _ l c p fs cl => .suspended (fun _ => .unsupported "") l c p (fs.map flatF) cl
  | x => x
theorem poison_seen (x : GenState) : (poison x).seen = x.seen := by
  cases x with
  | suspended k l c p fs cl =>
    show (GenStatus.suspended, some ((c, p) :: (fs.map flatF).map Frame.where_)) = (GenStatus.suspended, some ((c, p) :: fs.map Frame.where_))
    rw [List.map_map, show Frame.where_ ∘ flatF = Frame.where_ from funext flatF_where]
  | _ => rfl
theorem poison_bare {x : GenState} (h : x.bare = true) : (poison x).bare = true := by cases x <;> exact h
def asleep : GenState → Bool
  | .suspended .. => true
  | _ => false
theorem split_app : ∀ {a b : List Frame}, splitAtGen a = none → splitAtGen b = none → splitAtGen (a ++ b) = none
  | [], b, _, h => h
  | .ret k h g l c p kp :: a, b, ha, hb => by
    have ha' : splitAtGen a = none := by
      unfold splitAtGen at ha
      simpa using ha
    show (splitAtGen (a ++ b)).map _ = none
    rw [split_app ha' hb]
    rfl
  | .gen g k l c p :: a, b, ha, hb => by unfold splitAtGen at ha; cases ha
theorem split_tail {F : Frame} {fs : List Frame} (h : splitAtGen (F :: fs) = none) : splitAtGen fs = none := by
  cases F with
  | ret k h' g l c p kp =>
    unfold splitAtGen at h
    simpa using h
  | gen g k l c p => unfold splitAtGen at h; cases h
def noG : End → Prop
  | .ret _ => True
  | .susp _ _ _ _ _ _ fs => splitAtGen fs = none
/-- B: those that are to stay asleep, as they really are -/
structure Sim (B : Nat → Option GenState) (s s₁ : Shared) : Prop where
  heap : s₁.heap = s.heap
  drawn : s₁.drawn = s.drawn
  toks : s₁.toks = s.toks
  os : s₁.os = s.os
  size : s₁.gens.size = s.gens.size
  at_ : ∀ i x, B i = some x → s.gens[i]? = some x ∧ s₁.gens[i]? = some (poison x) ∧ asleep x = true
  eq : ∀ i, B i = none → s₁.gens[i]? = s.gens[i]? ∧ ∀ k l c p fs cl, s.gens[i]? = some (.suspended k l c p fs cl) → splitAtGen fs = none
section
variable {B : Nat → Option GenState} {s s₁ : Shared}
theorem Sim.setHeap (h : Sim B s s₁) (f : Heap → Heap) : Sim B { s with heap := f s.heap } { s₁ with heap := f s₁.heap } := ⟨by show f s₁.heap = f s.heap; rw [h.heap], h.drawn, h.toks, h.os, h.size, h.at_, h.eq⟩
theorem set_get (s : Shared) (g i : Nat) (x : GenState) : (s.setGen g x).gens[i]? = if g = i then (if g < s.gens.size then some x else none) else s.gens[i]? := by
  show (s.gens.setIfInBounds g x)[i]? = _
  by_cases e : g = i
  · subst e
    rw [if_pos rfl]
    by_cases l : g < s.gens.size
    · rw [if_pos l]; simp [l]
    · rw [if_neg l]; simp [l]
  · rw [if_neg e, Array.getElem?_setIfInBounds_ne e]
theorem Sim.set (h : Sim B s s₁) {g : Nat} {x : GenState} (hg : B g = none) (hx : ∀ k l c p fs cl, x = .suspended k l c p fs cl → splitAtGen fs = none) : Sim B (s.setGen g x) (s₁.setGen g x) := by
  refine ⟨h.heap, h.drawn, h.toks, h.os, ?_, fun i y hy => ?_, fun i hi => ?_⟩
  · rw [GenW.setGen_size, GenW.setGen_size]; exact h.size
  · have ne : g ≠ i := fun e => by rw [← e, hg] at hy; cases hy
    rw [set_get, set_get, if_neg ne, if_neg ne]
    exact h.at_ i y hy
  · rw [set_get, set_get]
    by_cases e : g = i
    · rw [if_pos e, if_pos e, h.size]
      refine ⟨rfl, fun k l c p fs cl z => ?_⟩
      split at z
      · exact hx k l c p fs cl (Option.some.inj z)
      · cases z
    · rw [if_neg e, if_neg e]
      exact h.eq i hi
theorem Sim.push (h : Sim B s s₁) (c : Code) : Sim B { s with gens := s.gens.push (.fresh c) } { s₁ with gens := s₁.gens.push (.fresh c) } := by
  refine ⟨h.heap, h.drawn, h.toks, h.os, by show (s₁.gens.push _).size = (s.gens.push _).size; rw [Array.size_push, Array.size_push, h.size], fun i x hx => ?_, fun i hi => ?_⟩
  · obtain ⟨a, b, c⟩ := h.at_ i x hx
    have l1 : i < s.gens.size := (Array.getElem?_eq_some_iff.mp a).1
    refine ⟨?_, ?_, c⟩
    · show (s.gens.push _)[i]? = _
      rw [Array.getElem?_push, if_neg (by omega)]; exact a
    · show (s₁.gens.push _)[i]? = _
      rw [Array.getElem?_push, if_neg (by rw [h.size]; omega)]; exact b
  · show (s₁.gens.push _)[i]? = (s.gens.push _)[i]? ∧ ∀ k l c' p fs cl, (s.gens.push _)[i]? = _ → _
    rw [Array.getElem?_push, Array.getElem?_push, h.size]
    by_cases e : i = s.gens.size
    · rw [if_pos e, if_pos e]
      exact ⟨rfl, fun k l c' p fs cl z => by cases z⟩
    · rw [if_neg e, if_neg e]
      exact h.eq i hi
theorem Sim.bnone (h : Sim B s s₁) {g : Nat} {x : GenState} (hx : s₁.gens[g]? = some x) (hs : asleep x = false) : B g = none ∧ s.gens[g]? = some x := by
  cases e : B g with
  | none => exact ⟨rfl, by rw [← (h.eq g e).1]; exact hx⟩
  | some y =>
    obtain ⟨a, b, c⟩ := h.at_ g y e
    rw [hx] at b
    cases y with
    | suspended k l c' p fs cl => cases b; cases hs
    | _ => cases c
theorem runs_unsupp {M : Model} {Γ : Ctx} {p : Pos} {w : String} {fs : List Frame} {e : End} {s' : Shared} (h : Runs M Γ p (.unsupported w) fs s e s') : False := by
  cases h with
  | segRet a b => cases a
  | segGen a b => cases a
  | segSuspOut a b => cases b
  | segSuspGen a b c d => cases b
theorem sim_runs {M : Model} {Γ : Ctx} {p : Pos} {t : Sem PySem.Fin} {fs : List Frame} {e : End} {s₁' : Shared} (h : Runs M Γ p t fs s₁ e s₁') : splitAtGen fs = none → ∀ s, Sim B s s₁ → ∃ s', Runs M Γ p t fs s e s' ∧ Sim B s' s₁' ∧ noG e := by
  induction h with
  | done => exact fun _ s h => ⟨s, .done, h, trivial⟩
  | raise => exact fun _ s h => ⟨s, .raise, h, trivial⟩
  | again q _ ih => exact fun n s h => let ⟨s', r, a, b⟩ := ih rfl s h; ⟨s', .again q r, a, b⟩
  | rule _ ih => exact fun n s h => let ⟨s', r, a, b⟩ := ih rfl s h; ⟨s', .rule r, a, b⟩
  | «at» _ ih => exact fun n s h => let ⟨s', r, a, b⟩ := ih rfl s h; ⟨s', .at r, a, b⟩
  | load ho _ ih => exact fun n s h => let ⟨s', r, a, b⟩ := ih rfl s h; ⟨s', .load (by rw [← h.heap]; exact ho) r, a, b⟩
  | update ho _ ih => exact fun n s h => let ⟨s', r, a, b⟩ := ih rfl _ (h.setHeap fun x => x.update _ _); ⟨s', .update (by rw [← h.heap]; exact ho) r, a, b⟩
  | loadIfAlive _ ih => exact fun n s h => let ⟨s', r, a, b⟩ := ih rfl s h; ⟨s', .loadIfAlive (by rw [← h.heap]; exact r), a, b⟩
  | point _ ih => exact fun n s h => let ⟨s', r, a, b⟩ := ih rfl s h; ⟨s', .point r, a, b⟩
  | @alloc Γ p k s₁ e s' o hr ih =>
    intro n s h
    obtain ⟨s', r, a, b⟩ := ih rfl _ (h.setHeap fun x => x.push _)
    rw [h.heap] at r
    exact ⟨s', .alloc r, a, b⟩
  | fresh _ ih =>
    intro n s h
    obtain ⟨s', r, a, b⟩ := ih rfl { s with toks := s.toks + 1 } ⟨h.heap, h.drawn, (by show _ + 1 = _ + 1; rw [h.toks]), h.os, h.size, h.at_, h.eq⟩
    rw [h.toks] at r
    exact ⟨s', .fresh r, a, b⟩
  | ask _ ih => exact fun n s h => let ⟨s', r, a, b⟩ := ih rfl s h; ⟨s', .ask r, a, b⟩
  | @choose n Γ p k s₁ e s' src hn _ ih =>
    intro _ s h
    obtain ⟨s', r, a, b⟩ := ih rfl { s with drawn := s.drawn.bump src } ⟨h.heap, (by show Drawn.bump _ _ = Drawn.bump _ _; rw [h.drawn]), h.toks, h.os, h.size, h.at_, h.eq⟩
    rw [h.drawn] at r
    exact ⟨s', .choose hn r, a, b⟩
  | @os Γ p k s₁ e s' q l _ ih =>
    intro _ s h
    obtain ⟨s', r, a, b⟩ := ih rfl { s with os := (Os.step s.os q).1 } ⟨h.heap, h.drawn, h.toks, (by show (Os.step _ _).1 = (Os.step _ _).1; rw [h.os]), h.size, h.at_, h.eq⟩
    rw [h.os] at r
    exact ⟨s', .os r, a, b⟩
  | handled _ ih => exact fun n s h => let ⟨s', r, a, b⟩ := ih rfl s h; ⟨s', .handled r, a, b⟩
  | @genState g st Γ p k s₁ e s' hg hr ih =>
    intro n s h
    obtain ⟨s', r, a, b⟩ := ih rfl s h
    cases z : B g with
    | none => exact ⟨s', .genState (by rw [← (h.eq g z).1]; exact hg) r, a, b⟩
    | some x =>
      obtain ⟨y1, y2, _⟩ := h.at_ g x z
      rw [hg] at y2
      cases y2
      exact ⟨s', .genState y1 (by rw [← poison_seen]; exact r), a, b⟩
  | stack _ ih => exact fun n s h => let ⟨s', r, a, b⟩ := ih rfl s h; ⟨s', .stack r, a, b⟩
  | thread _ ih => exact fun n s h => let ⟨s', r, a, b⟩ := ih rfl s h; ⟨s', .thread r, a, b⟩
  | newGen _ ih => exact fun n s h => let ⟨s', r, a, b⟩ := ih rfl _ (h.push _); ⟨s', .newGen (by rw [← h.size]; exact r), a, b⟩
  | call _ _ ih1 ih2 => exact fun n s h => let ⟨s', r, a, b⟩ := ih1 rfl s h; let ⟨s'', r2, a2, b2⟩ := ih2 rfl s' a; ⟨s'', .call r r2, a2, b2⟩
  | callSusp _ ih => exact fun n s h => let ⟨s', r, a, b⟩ := ih rfl s h; ⟨s', .callSusp r, a, split_app b rfl⟩
  | yield => exact fun _ s h => ⟨s, .yield, h, rfl⟩
  | @resumeFresh Γ p g l k s₁ c e₁ s₂ e s₃ hg _ hq _ ih1 ih2 =>
    intro n s h
    obtain ⟨bn, hs⟩ := h.bnone hg rfl
    obtain ⟨s', r, a, b⟩ := ih1 rfl _ (h.set bn (x := .running) fun _ _ _ _ _ _ z => by cases z)
    obtain ⟨s'', r2, a2, b2⟩ := ih2 rfl _ (a.set bn fun k l c p fs cl z => by
      cases e₁ with
      | ret _ => cases z
      | susp v g l' k' c' p' fs' => cases z; exact b)
    exact ⟨s'', .resumeFresh hs r hq r2, a2, b2⟩
  | @resumeSuspended Γ p g r l k s₁ k₀ l₀ c₀ p₀ fs cl e₁ s₂ e s₃ hg hr hq _ ih1 ih2 =>
    intro n s h
    cases z : B g with
    | some x =>
      obtain ⟨y1, y2, y3⟩ := h.at_ g x z
      rw [hg] at y2
      cases x with
      | suspended k' l' c' p' fs' cl' =>
        cases y2
        exact (runs_unsupp hr).elim
      | _ => cases y3
    | none =>
      have hs := (h.eq g z).1.symm.trans hg
      obtain ⟨s', r, a, b⟩ := ih1 ((h.eq g z).2 _ _ _ _ _ _ hs) _ (h.set z (x := .running) fun _ _ _ _ _ _ z => by cases z)
      obtain ⟨s'', r2, a2, b2⟩ := ih2 rfl _ (a.set z fun k l c p fs cl z => by
        cases e₁ with
        | ret _ => cases z
        | susp v g l' k' c' p' fs' => cases z; exact b)
      exact ⟨s'', .resumeSuspended hs r hq r2, a2, b2⟩
  | resumeJustStarted hg hv _ ih => exact fun n s h => let ⟨s', r, a, b⟩ := ih rfl s h; ⟨s', .resumeJustStarted (h.bnone hg rfl).2 hv r, a, b⟩
  | resumeThrowFresh hg _ ih =>
    intro n s h
    obtain ⟨bn, hs⟩ := h.bnone hg rfl
    obtain ⟨s', r, a, b⟩ := ih rfl _ (h.set bn (x := .finished) fun _ _ _ _ _ _ z => by cases z)
    exact ⟨s', .resumeThrowFresh hs r, a, b⟩
  | resumeRunning hg _ ih => exact fun n s h => let ⟨s', r, a, b⟩ := ih rfl s h; ⟨s', .resumeRunning (h.bnone hg rfl).2 r, a, b⟩
  | resumeFinished hg _ ih => exact fun n s h => let ⟨s', r, a, b⟩ := ih rfl s h; ⟨s', .resumeFinished (h.bnone hg rfl).2 r, a, b⟩
  | segRet _ _ ih1 ih2 => exact fun n s h => let ⟨s', r, a, b⟩ := ih1 rfl s h; let ⟨s'', r2, a2, b2⟩ := ih2 (split_tail n) s' a; ⟨s'', .segRet r r2, a2, b2⟩
  | segGen _ _ ih1 ih2 => exact fun n s h => by unfold splitAtGen at n; cases n
  | segSuspOut hn _ ih => exact fun n s h => let ⟨s', r, a, b⟩ := ih rfl s h; ⟨s', .segSuspOut hn r, a, split_app b n⟩
  | segSuspGen hn _ _ _ ih1 ih2 => exact fun n s h => by rw [n] at hn; cases hn
theorem sim_wakes {M : Model} {Γ : Ctx} {p : Pos} {g : Nat} {r : Resume} {res : GenResult} {s₁' : Shared} (h : Sim B s s₁) (hw : Wakes M Γ p g r s₁ res s₁') : ∃ s', Wakes M Γ p g r s res s' ∧ Sim B s' s₁' := by
  unfold Wakes at hw
  split at hw
  · exact hw.elim
  · rename_i c hg
    obtain ⟨bn, hs⟩ := h.bnone hg rfl
    split at hw
    · obtain ⟨e₁, s₂, hr, hq, rfl, rfl⟩ := hw
      obtain ⟨s', a, b, c'⟩ := sim_runs hr rfl _ (h.set bn (x := .running) fun _ _ _ _ _ _ z => by cases z)
      refine ⟨s'.setGen g e₁.genState, ?_, b.set bn fun k l c p fs cl z => ?_⟩
      · unfold Wakes
        rw [hs]
        exact ⟨e₁, s', a, hq, rfl, rfl⟩
      · cases e₁ with
        | ret _ => cases z
        | susp v g' l' k' c'' p' fs' => cases z; exact c'
    · obtain ⟨rfl, rfl⟩ := hw
      rename_i v hv
      refine ⟨s, ?_, h⟩
      unfold Wakes
      rw [hs]
      cases v with
      | none => exact absurd rfl hv
      | _ => exact ⟨rfl, rfl⟩
    · obtain ⟨rfl, rfl⟩ := hw
      refine ⟨s.setGen g .finished, ?_, h.set bn fun _ _ _ _ _ _ z => by cases z⟩
      unfold Wakes
      rw [hs]
      exact ⟨rfl, rfl⟩
  · rename_i k₀ l₀ c₀ p₀ fs cl hg
    obtain ⟨e₁, s₂, hr, hq, rfl, rfl⟩ := hw
    cases z : B g with
    | some x =>
      obtain ⟨y1, y2, y3⟩ := h.at_ g x z
      rw [hg] at y2
      cases x with
      | suspended k' l' c' p' fs' cl' =>
        cases y2
        exact (runs_unsupp hr).elim
      | _ => cases y3
    | none =>
      have hs := (h.eq g z).1.symm.trans hg
      obtain ⟨s', a, b, c'⟩ := sim_runs hr ((h.eq g z).2 _ _ _ _ _ _ hs) _ (h.set z (x := .running) fun _ _ _ _ _ _ z => by cases z)
      refine ⟨s'.setGen g e₁.genState, ?_, b.set z fun k l c p fs cl z => ?_⟩
      · unfold Wakes
        rw [hs]
        exact ⟨e₁, s', a, hq, rfl, rfl⟩
      · cases e₁ with
        | ret _ => cases z
        | susp v g' l' k' c'' p' fs' => cases z; exact c'
  · rename_i hg
    obtain ⟨rfl, rfl⟩ := hw
    refine ⟨s, ?_, h⟩
    unfold Wakes
    rw [(h.bnone hg rfl).2]
    exact ⟨rfl, rfl⟩
  · rename_i hg
    obtain ⟨rfl, rfl⟩ := hw
    refine ⟨s, ?_, h⟩
    unfold Wakes
    rw [(h.bnone hg rfl).2]
    exact ⟨rfl, rfl⟩
theorem sim_wp {α : Type} (M : Model) (Γ : Ctx) (t : Sem α) : ∀ (Q : α → Pos → Shared → Prop) (E : Value → Pos → Shared → Prop) (p : Pos) (s s₁ : Shared), Sim B s s₁ → wp M Γ t Q E p s₁ →
    wp M Γ t (fun a p' s' => ∃ s₁', Sim B s' s₁' ∧ Q a p' s₁') (fun e p' s' => ∃ s₁', Sim B s' s₁' ∧ E e p' s₁') p s := by
  induction t with
  | pure a => intro Q E p s s₁ S h; exact ⟨s₁, S, h⟩
  | raise e => intro Q E p s s₁ S h; exact ⟨s₁, S, h⟩
  | unsupported _ => intro Q E p s s₁ _ h; exact h
  | finish _ => intro Q E p s s₁ _ h; exact h
  | rule _ k ih => intro Q E p s s₁ S h; exact ih () Q E p s s₁ S h
  | «at» p' k ih => intro Q E p s s₁ S h; exact ih () Q E p' s s₁ S h
  | load a _ k ih => intro Q E p s s₁ S h; obtain ⟨o, ho, h⟩ := h; exact ⟨o, by rw [← S.heap]; exact ho, ih o Q E p s s₁ S h⟩
  | update a _ f k ih => intro Q E p s s₁ S h; exact ⟨by rw [← S.heap]; exact h.1, ih () Q E p _ _ (S.setHeap fun x => x.update a f) h.2⟩
  | loadIfAlive a k ih => intro Q E p s s₁ S h; have := ih _ Q E p s s₁ S h; rw [S.heap] at this; exact this
  | point _ k ih => intro Q E p s s₁ S h; exact ih () Q E p s s₁ S h
  | register _ _ => intro Q E p s s₁ _ h; exact h
  | alloc o k ih => intro Q E p s s₁ S h; have := ih _ Q E p _ _ (S.setHeap fun x => x.push o) h; rw [S.heap] at this; exact this
  | fresh k ih =>
    intro Q E p s s₁ S h
    have h : wp M Γ (k s₁.toks) Q E p { s₁ with toks := s₁.toks + 1 } := h
    have := ih _ Q E p { s with toks := s.toks + 1 } { s₁ with toks := s₁.toks + 1 } ⟨S.heap, S.drawn, (by show _ + 1 = _ + 1; rw [S.toks]), S.os, S.size, S.at_, S.eq⟩ h
    rw [S.toks] at this
    exact this
  | ask k ih => intro Q E p s s₁ S h; exact ih _ Q E p s s₁ S h
  | choose src m k ih =>
    intro Q E p s s₁ S h
    have := ih _ Q E p { s with drawn := s.drawn.bump src } { s₁ with drawn := s₁.drawn.bump src } ⟨S.heap, (by show Drawn.bump _ _ = Drawn.bump _ _; rw [S.drawn]), S.toks, S.os, S.size, S.at_, S.eq⟩ h.2
    rw [S.drawn] at this
    exact ⟨h.1, this⟩
  | os q _ k ih =>
    intro Q E p s s₁ S h
    have h : wp M Γ (k (Os.step s₁.os q).2) Q E p { s₁ with os := (Os.step s₁.os q).1 } := h
    have := ih _ Q E p { s with os := (Os.step s.os q).1 } { s₁ with os := (Os.step s₁.os q).1 } ⟨S.heap, S.drawn, S.toks, (by show (Os.step _ _).1 = (Os.step _ _).1; rw [S.os]), S.size, S.at_, S.eq⟩ h
    rw [S.os] at this
    exact this
  | call c hd _ _ k ih =>
    intro Q E p s s₁ S h
    obtain ⟨r, s', hr, h⟩ := h
    obtain ⟨s₂, a, b, _⟩ := sim_runs hr rfl s S
    exact ⟨r, s₂, a, ih r Q E p s₂ s' b h⟩
  | handled own k ih => intro Q E p s s₁ S h; exact ih _ Q E p s s₁ S h
  | genState g k ih =>
    intro Q E p s s₁ S h
    obtain ⟨st, hs, h⟩ := h
    cases z : B g with
    | none => exact ⟨st, by rw [← (S.eq g z).1]; exact hs, ih _ Q E p s s₁ S h⟩
    | some x =>
      obtain ⟨y1, y2, _⟩ := S.at_ g x z
      rw [hs] at y2
      cases y2
      exact ⟨x, y1, by rw [poison_seen] at h; exact ih _ Q E p s s₁ S h⟩
  | newGen c k ih => intro Q E p s s₁ S h; have := ih _ Q E p _ _ (S.push c) h; rw [S.size] at this; exact this
  | resume g r _ k ih =>
    intro Q E p s s₁ S h
    obtain ⟨res, s', hw, h⟩ := h
    obtain ⟨s₂, a, b⟩ := sim_wakes S hw
    exact ⟨res, s₂, a, ih res Q E p s₂ s' b h⟩
  | yield _ _ _ _ => intro Q E p s s₁ _ h; exact h
  | stack k ih => intro Q E p s s₁ S h; exact ih _ Q E p s s₁ S h
  | fork _ _ => intro Q E p s s₁ _ h; exact h
  | thread k ih => intro Q E p s s₁ S h; exact ih _ Q E p s s₁ S h
  | await _ _ _ _ _ => intro Q E p s s₁ _ h; exact h
end
/-- all that sleep, put beyond waking -/
def sleepB (s : Shared) : Nat → Option GenState := fun i => match s.gens[i]? with
  | some x => if asleep x then some x else none
  | none => none
def drugged (s : Shared) : Shared := { s with gens := s.gens.map poison }
theorem sim_drugged (s : Shared) : Sim (sleepB s) s (drugged s) := by
  refine ⟨rfl, rfl, rfl, rfl, by show (s.gens.map poison).size = _; rw [Array.size_map], fun i x h => ?_, fun i h => ?_⟩
  · unfold sleepB at h
    cases e : s.gens[i]? with
    | none => rw [e] at h; cases h
    | some y =>
      rw [e] at h
      dsimp only at h
      split at h
      · rename_i ha
        cases h
        refine ⟨rfl, ?_, ha⟩
        show (s.gens.map poison)[i]? = _
        rw [Array.getElem?_map, e]
        rfl
      · cases h
  · unfold sleepB at h
    have hm : (drugged s).gens[i]? = (s.gens[i]?).map poison := by
      show (s.gens.map poison)[i]? = _
      rw [Array.getElem?_map]
    rw [hm]
    cases e : s.gens[i]? with
    | none => exact ⟨rfl, fun _ _ _ _ _ _ z => by cases z⟩
    | some y =>
      rw [e] at h
      dsimp only at h
      split at h
      · cases h
      · rename_i ha
        cases y with
        | suspended k l c p fs cl => exact absurd rfl ha
        | fresh c => exact ⟨rfl, fun _ _ _ _ _ _ z => by cases z⟩
        | running => exact ⟨rfl, fun _ _ _ _ _ _ z => by cases z⟩
        | finished => exact ⟨rfl, fun _ _ _ _ _ _ z => by cases z⟩
/-- a run that is right beside the drugged sleepers is right beside the real ones, and wakes none of them -/
theorem wpAny_asleep {α : Type} {M : Model} {A : Around} {t : Sem α} {Q : α → Shared → Prop} {E : Value → Shared → Prop} {s : Shared} (h : wpAny M A t Q E (drugged s)) :
    wpAny M A t (fun a s' => (∀ (i : Nat) (x : GenState), s.gens[i]? = some x → asleep x = true → s'.gens[i]? = some x) ∧ ∃ s₁', Sim (sleepB s) s' s₁' ∧ Q a s₁') (fun e s' => (∀ (i : Nat) (x : GenState), s.gens[i]? = some x → asleep x = true → s'.gens[i]? = some x) ∧ ∃ s₁', Sim (sleepB s) s' s₁' ∧ E e s₁') s := by
  have keep : ∀ {s' s₁' : Shared}, Sim (sleepB s) s' s₁' → ∀ (i : Nat) (x : GenState), s.gens[i]? = some x → asleep x = true → s'.gens[i]? = some x := fun {s' s₁'} S i x e ha => (S.at_ i x (by unfold sleepB; rw [e]; exact if_pos ha)).1
  refine wpAny_mono (fun Γ p hΓ => sim_wp M Γ t _ _ p s (drugged s) (sim_drugged s) (h Γ p hΓ) : wpAny M A t (fun a s' => ∃ s₁', Sim (sleepB s) s' s₁' ∧ Q a s₁') (fun e s' => ∃ s₁', Sim (sleepB s) s' s₁' ∧ E e s₁') s) (fun a s' q => ?_) fun e s' q => ?_
  · obtain ⟨s₁', S, q⟩ := q
    exact ⟨keep S, s₁', S, q⟩
  · obtain ⟨s₁', S, q⟩ := q
    exact ⟨keep S, s₁', S, q⟩
end PT

/-! G1: a generator's frame at each wake: the heap below its own frame taken as it stands. -/
namespace PT
open PySem PySem.Spec PyProof.Rows L2
/-- the first n objects of a heap -/
def pre (n : Nat) (h : Heap) : Heap := ⟨h.objs.extract 0 n, h.life⟩
theorem pre_get {n : Nat} {h : Heap} {b : Nat} : (pre n h).get? b = if b < n then h.get? b else none := by
  unfold Heap.get? pre
  by_cases l : b < n
  · rw [if_pos l]
    have e : (h.objs.extract 0 n)[b]? = h.objs[b]? := by
      rw [Array.getElem?_extract]
      by_cases l2 : b < h.objs.size
      · rw [if_pos (by omega), Nat.zero_add]
      · rw [if_neg (by omega), Array.getElem?_eq_none (by omega)]
    rw [e]
  · rw [if_neg l]
    have e : (h.objs.extract 0 n)[b]? = none := by
      rw [Array.getElem?_extract, if_neg (by omega)]
    rw [e]
theorem pre_lt {n : Nat} {h : Heap} {b : Nat} (l : b < n) : (pre n h).get? b = h.get? b := by rw [pre_get, if_pos l]
theorem pre_of {n : Nat} {h : Heap} {b : Nat} {o : Obj} (e : (pre n h).get? b = some o) : b < n ∧ h.get? b = some o := by
  rw [pre_get] at e
  split at e
  · exact ⟨by assumption, e⟩
  · cases e
theorem pre_size {n : Nat} {h : Heap} (l : n ≤ h.objs.size) : (pre n h).objs.size = n := by
  show (h.objs.extract 0 n).size = n
  rw [Array.size_extract]
  omega
theorem pre_funs {n : Nat} {h base : Heap} : ∀ {l : List PySem.Env}, h.FunFrames base l → (∀ b ∈ frs l, b < n) → (pre n h).FunFrames base l
  | [], _, _ => trivial
  | env :: l, ⟨a, ⟨L, o, e1, e2, e3, e4⟩, r⟩, hb => by
    have hf : frs (env :: l) = L :: frs l := by unfold frs; rw [List.filterMap_cons, e1]
    rw [hf] at hb
    exact ⟨a, ⟨L, o, e1, e2, by rw [pre_lt (hb L List.mem_cons_self)]; exact e3, e4⟩, pre_funs r fun b m => hb b (List.mem_cons_of_mem _ m)⟩
/-- the context with the heap below the frame as it stands now -/
def reX (X : Cx) (s' : Shared) (H' : Hp) : Cx := { X with s_0 := { s' with heap := pre X.env.locals s'.heap }, H_0 := fun b => if (b : Nat) < X.env.locals then H' b else none }
theorem wake_inv {X : Cx} {ip : List (Addr × Obj)} {σ : L2.St} {H H' : Hp} {s s' : Shared} (hsz : X.s_0.heap.objs.size = X.env.locals) (I : Inv X ip σ H s) (sz : X.env.locals ≤ s'.heap.objs.size)
    (bs : ∀ b o, X.base.get? b = some o → s'.heap.get? b = some o ∧ H' b = none) (hfun : s'.heap.FunFrames X.base X.outer) (hfr : ∀ b ∈ X.fs, (b : Nat) < X.env.locals ∧ H' b = none) (bare : AllBare s'.gens)
    (kL : ∀ o, s.heap.get? X.env.locals = some o → s'.heap.get? X.env.locals = some o) (kC : ∀ x c, X.env.cells.lookup x = some c → ∀ o, s.heap.get? c = some o → s'.heap.get? c = some o)
    (kP : ∀ p ∈ X.pn ++ ip, s'.heap.get? p.1 = some p.2 ∧ H' p.1 = none) (hL : H' X.env.locals = none) (hC : ∀ x c, X.env.cells.lookup x = some c → H' c = none) (hok : HOk X.prog X.w H' s'.heap) :
    Inv (reX X s' H') ip σ H' s' := by
  have lt : ∀ b o, X.base.get? b = some o → (b : Nat) < X.env.locals := fun b o e => by
    have h1 := Heap.lt_size e
    have h2 := I.ok.bsz
    rw [hsz] at h2
    exact Nat.lt_of_lt_of_le h1 h2
  have ps : (pre X.env.locals s'.heap).objs.size = X.env.locals := pre_size sz
  refine ⟨⟨I.ok.mod, I.ok.kind, I.ok.glob, I.ok.blt, Nat.le_of_eq ps, I.ok.inj, I.ok.has, fun x c h1 h2 => ?_, I.ok.hd, I.ok.frames, I.ok.stk, I.ok.exf, fun b o e => ?_, ?_, I.ok.noex, I.ok.exfs, pre_funs hfun fun b m => (hfr b m).1, fun b m => ?_⟩,
    rfl, bare, ⟨fun b o e n hb hx => (pre_of e).2, fun b o e n hb hx => ⟨o.slots, (pre_of e).2⟩, fun b o e n hx => ?_, fun b o e hx => ⟨o, (pre_of e).2⟩, fun b xs e => ?_, fun b o u e => ?_, fun b qs e => ?_⟩, ?_, fun x c h => ?_, hL, hC, fun p hp => ?_, hok, I.len⟩
  · show (pre X.env.locals s'.heap).objs.size ≤ c
    rw [ps, ← hsz]
    exact I.ok.cab x c h1 h2
  · have l := lt b o e
    obtain ⟨h1, h2⟩ := bs b o e
    refine ⟨(pre_lt l).trans h1, ?_⟩
    show (if (b : Nat) < X.env.locals then H' b else none) = none
    rw [if_pos l]
    exact h2
  · show X.base.objs.size ≤ (pre X.env.locals s'.heap).objs.size
    rw [ps, ← hsz]
    exact I.ok.bsz
  · show (if (b : Nat) < X.env.locals then H' b else none) = none
    split
    · exact (hfr b m).2
    · rfl
  · have n : (if (b : Nat) < X.env.locals then H' b else none) = none := n
    rw [if_pos (pre_of e).1] at n
    exact n
  · have e : (if (b : Nat) < X.env.locals then H' b else none) = _ := e
    split at e
    · exact e
    · cases e
  · have e : (if (b : Nat) < X.env.locals then H' b else none) = _ := e
    split at e
    · exact e
    · cases e
  · have e : (if (b : Nat) < X.env.locals then H' b else none) = _ := e
    split at e
    · exact ⟨#[], by rw [e]; simp⟩
    · cases e
  · obtain ⟨m, ⟨o, es, ep, h1, h2, h3, h4⟩, hv⟩ := I.loc
    refine ⟨m, ⟨o, es, ep, kL o h1, h2, h3, h4⟩, fun i x v a b c => ?_⟩
    obtain ⟨u, r, lk⟩ := hv i x v a b c
    refine ⟨u, r, ?_⟩
    rcases lk with lk | ⟨k, c, e, o, ho, hd⟩
    · exact .inl lk
    · exact .inr ⟨k, c, e, o, kC x c e o ho, hd⟩
  · obtain ⟨v, o, ho, hd⟩ := I.cell x c h
    exact ⟨v, o, kC x c h o ho, hd⟩
  · obtain ⟨_, _, h3, h4, h5⟩ := I.pin p hp
    obtain ⟨k1, k2⟩ := kP p hp
    exact ⟨k1, k2, h3, h4, h5⟩
end PT

/-! G2: the consumer's frame behind a generator's turn. -/
namespace PT
open PySem PySem.Spec PyProof.Rows L2
theorem objOk_there {P : Program} {w : World} {H : Hp} {h : Heap} {a : Addr} {o : HO} (x : ObjOk P w H h a o) : ∃ u, h.get? a = some u := by
  cases o with
  | lst xs => obtain ⟨_, _, _, _, e⟩ := x; exact ⟨_, e⟩
  | tup xs => obtain ⟨_, _, _, u, e, _⟩ := x; exact ⟨_, e⟩
  | dK kvs => obtain ⟨_, _, _, _, o, _, _, e, _⟩ := x; exact ⟨_, e⟩
  | dT kvs => obtain ⟨_, _, _, _, o, _, _, e, _⟩ := x; exact ⟨_, e⟩
  | set S n => obtain ⟨o, _, _, _, e, _⟩ := x; exact ⟨_, e⟩
  | ins C dx fs => obtain ⟨_, _, _, e, _⟩ := x; exact ⟨_, e⟩
  | own y => obtain ⟨_, e⟩ := x; exact ⟨_, e⟩
  | xd fs => obtain ⟨_, ⟨_, _, _, e, _⟩, _⟩ := x; exact ⟨_, e⟩
  | rng lo hi => obtain ⟨_, _, _, e⟩ := x; exact ⟨_, e⟩
  | frz ob u => obtain ⟨e, _⟩ := x; exact ⟨_, e⟩
  | tbl ps => exact ⟨_, (show h.get? a = some _ from x)⟩
  | met f y => exact ⟨_, (show h.get? a = some _ from x)⟩
  | ext φ => obtain ⟨_, ⟨_, e⟩, _⟩ := x; exact ⟨_, e⟩
/-- what the consumer knows behind a turn: all that the generator tracks but for its own lists -/
def backH (fl : List Addr) (H1 : Hp) : Hp := fun b => if b ∈ fl then none else H1 b
theorem back_inv {Xc Xg : Cx} {pinsC ip : List (Addr × Obj)} {σc σg : L2.St} {Hc H' H1 : Hp} {s' s1 : Shared} (fl : List Addr) (Ic : Inv Xc pinsC σc Hc s') (Ig : Inv (reX Xg s' H') ip σg H1 s1) (hp : Xc.prog = Xg.prog) (hw : Xc.w = Xg.w) (hst : Xg.outer = Xc.stack) (hex : Xg.ex = [])
    (hH' : ∀ b : Nat, b < Xg.env.locals → H' b = Hc b) (hHc : ∀ b u, Hc b = some u → H1 b = some u) (hfl : ∀ b ∈ fl, Hc b = none ∧ ∃ xs, H1 b = some (.lst xs))
    (hpin : ∀ p ∈ Xc.pn ++ pinsC, Xg.env.locals ≤ (p.1 : Nat) → p ∈ Xg.pn ++ ip) (hn0 : Xc.s_0.heap.objs.size ≤ Xg.env.locals) (hloc : (Xc.env.locals : Nat) < Xg.env.locals) (hcell : ∀ x c, Xc.env.cells.lookup x = some c → (c : Nat) < Xg.env.locals)
    (hfs : ∀ b ∈ frs Xc.stack, (b : Nat) < Xg.env.locals) : Inv Xc pinsC σc (backH fl H1) s1 := by
  let pr : Nat → Bool := fun b => decide (Xg.env.locals ≤ b) && (Hc b).isNone && !((Xc.pn ++ pinsC).any fun p => decide (p.1 = b))
  let ch : List Addr := (List.range s'.heap.objs.size).filter pr
  have inch : ∀ b : Nat, b < s'.heap.objs.size → Xg.env.locals ≤ b → Hc b = none → (∀ p ∈ Xc.pn ++ pinsC, p.1 ≠ b) → b ∈ ch := fun b h1 h2 h3 h4 => by
    refine List.mem_filter.mpr ⟨List.mem_range.mpr h1, ?_⟩
    show (decide (Xg.env.locals ≤ b) && (Hc b).isNone && !((Xc.pn ++ pinsC).any fun p => decide (p.1 = b))) = true
    rw [decide_eq_true h2, h3]
    have : ((Xc.pn ++ pinsC).any fun p => decide (p.1 = b)) = false := by
      rw [List.any_eq_false]
      exact fun p hp => by simpa using h4 p hp
    rw [this]
    rfl
  have ofch : ∀ b : Nat, b ∈ ch → Xg.env.locals ≤ b ∧ Hc b = none ∧ ∀ p ∈ Xc.pn ++ pinsC, p.1 ≠ b := fun b hb => by
    have := (List.mem_filter.mp hb).2
    have : (decide (Xg.env.locals ≤ b) && (Hc b).isNone && !((Xc.pn ++ pinsC).any fun p => decide (p.1 = b))) = true := this
    rw [Bool.and_eq_true, Bool.and_eq_true, decide_eq_true_eq, Bool.not_eq_true', List.any_eq_false] at this
    obtain ⟨⟨a1, a2⟩, a3⟩ := this
    exact ⟨a1, Option.isNone_iff_eq_none.mp a2, fun p hp => by simpa using a3 p hp⟩
  -- an old object, or one that is pinned by both
  have young : ∀ (b : Nat) (o : Obj), s'.heap.get? b = some o → Hc b = none → Xg.env.locals ≤ b → b ∉ ch → ∃ p ∈ Xg.pn ++ ip, p.1 = b ∧ p.2 = o := fun b o e n l hx => by
    have : ∃ p ∈ Xc.pn ++ pinsC, p.1 = b := Classical.byContradiction fun z => hx (inch b (Heap.lt_size e) l n fun p hp q => z ⟨p, hp, q⟩)
    obtain ⟨p, hp, rfl⟩ := this
    have := (Ic.pin p hp).1
    rw [e] at this
    exact ⟨p, hpin p hp l, rfl, (Option.some.inj this).symm⟩
  have pin1 : ∀ p ∈ Xg.pn ++ ip, s1.heap.get? p.1 = some p.2 ∧ H1 p.1 = none := fun p hp => ⟨(Ig.pin p hp).1, (Ig.pin p hp).2.1⟩
  have old : ∀ b : Nat, b < Xg.env.locals → ∀ o, s'.heap.get? b = some o → (reX Xg s' H').s_0.heap.get? b = some o := fun b l o e => (pre_lt l).trans e
  have oldH : ∀ b : Nat, b < Xg.env.locals → Hc b = none → (reX Xg s' H').H_0 b = none := fun b l e => by
    show (if b < Xg.env.locals then H' b else none) = none
    rw [if_pos l, hH' b l, e]
  have noex : ∀ b, b ∉ (reX Xg s' H').ex := fun b h => by
    have h : b ∈ Xg.ex := h
    rw [hex] at h
    cases h
  have un : Un (frs Xc.stack) ch Hc (backH fl H1) s'.heap s1.heap := by
    refine ⟨fun b o e n hb hx => ?_, fun b o e n hb hx => ?_, fun b o e n hx => ?_, fun b o e hx => ?_, fun b xs e => ?_, fun b o u e => ?_, fun b qs e => ?_⟩
    · by_cases l : (b : Nat) < Xg.env.locals
      · refine Ig.base.keep b o (old b l o e) (oldH b l n) ?_ (noex b)
        show b ∉ frs Xg.outer
        rw [hst]
        exact hb
      · obtain ⟨p, hp, rfl, rfl⟩ := young b o e n (Nat.le_of_not_lt l) hx
        exact (pin1 p hp).1
    · have l := hfs b hb
      refine Ig.base.slot b o (old b l o e) (oldH b l n) ?_ (noex b)
      show b ∈ frs Xg.outer
      rw [hst]
      exact hb
    · have : H1 b = none := by
        by_cases l : (b : Nat) < Xg.env.locals
        · exact Ig.base.free b o (old b l o e) (oldH b l n) (noex b)
        · obtain ⟨p, hp, rfl, rfl⟩ := young b o e n (Nat.le_of_not_lt l) hx
          exact (pin1 p hp).2
      unfold backH
      split
      · rfl
      · exact this
    · by_cases l : (b : Nat) < Xg.env.locals
      · exact Ig.base.there b o (old b l o e) (noex b)
      · cases n : Hc b with
        | some u => exact objOk_there (Ig.hok b u (hHc b u n))
        | none =>
          obtain ⟨p, hp, rfl, rfl⟩ := young b o e n (Nat.le_of_not_lt l) hx
          exact ⟨_, (pin1 p hp).1⟩
    · unfold backH
      rw [if_neg (fun m => by rw [(hfl b m).1] at e; cases e)]
      exact hHc b _ e
    · unfold backH
      rw [if_neg (fun m => by rw [(hfl b m).1] at e; cases e)]
      exact hHc b _ e
    · unfold backH
      rw [if_neg (fun m => by rw [(hfl b m).1] at e; cases e)]
      exact ⟨#[], by rw [hHc b _ e]; simp⟩
  have notfl : ∀ (b : Addr) (u : HO), H1 b = some u → (∀ xs, u ≠ .lst xs) → b ∉ fl := fun b u e n m => by
    obtain ⟨xs, z⟩ := (hfl b m).2
    rw [e] at z
    cases z
    exact n xs rfl
  refine Ic.call' (ch := ch) Ig.os un (fun b u e => ?_) Ig.bare fun b hb => ?_
  · have e1 : H1 b = some u := by
      unfold backH at e
      split at e
      · cases e
      · exact e
    rw [hp, hw]
    refine (Ig.hok b u e1).stay (fun _ _ _ z => z) (fun c z => ?_) fun c xs z => ?_
    · unfold backH
      rw [if_neg (notfl c _ z fun xs q => by cases q)]
      exact z
    · unfold backH
      rw [if_neg (notfl c _ z fun xs q => by cases q)]
      exact z
  · obtain ⟨h1, h2, h3⟩ := ofch b hb
    refine ⟨.inr (Nat.le_trans hn0 h1), fun z => ?_, fun x c e z => ?_, h3⟩
    · have h1 : Xg.env.locals ≤ (b : Nat) := h1
      rw [z] at h1
      exact absurd hloc (Nat.not_lt.mpr h1)
    · have := hcell x c e
      have h1 : Xg.env.locals ≤ (b : Nat) := h1
      rw [← z] at h1
      exact absurd this (Nat.not_lt.mpr h1)
end PT

/-! G3: a generator def's body, whatever its consumer does meanwhile: the frame's base is taken anew at each wake.
    Fi n s H: what the consumer promises at the wake with n turns to go (s, H: as it stands), and is told again at the next hand-out. -/
namespace PT
open PySem PySem.Spec PyProof.Rows L2 GenW
/-- of the k-th value x: F: what the consumer had frozen at the wake, B: the heap at the wake, G: what is frozen now, H: the heap now -/
abbrev GZ := Nat → V → Hp → Hp → Hp → Hp → Prop
abbrev GFi := Nat → Shared → Hp → Hp → Prop
/-- asleep: the value, the frame, and what it wants to be woken at -/
def GY (N : Nat) (X : Cx) (Fi : GFi) (Z : GZ) : Protocol := fun n s₀ v s kap =>
  ∃ k x ip σ H H₀ F G, n + 1 + k = N ∧ 1 ≤ n ∧ Fi (n + 1) s₀ H₀ F ∧ RelV x v ∧ Z k x F H₀ G H ∧ Same H₀ H ∧ Inv (reX X s₀ H₀) ip σ H s ∧ ∀ s' H' F', Same G F' → Same F' H' → Fi n s' H' F' → Inv (reX X s' H') ip σ H' s' → kap (.send .none) s'
def GF (N : Nat) (X : Cx) (Fi : GFi) (Q : Nat → Hp → Prop) : Nat → Shared → Shared → Prop := fun n s₀ s => ∃ k ip σ H H₀ F, n + k = N ∧ Fi n s₀ H₀ F ∧ Inv (reX X s₀ H₀) ip σ H s ∧ Q k H ∧ Same H₀ H
def GR (N : Nat) (X : Cx) (Fi : GFi) (Q : Nat → Hp → Prop) : GenEnd := fun n s₀ r s => ((r = .ok (.ret .none) ∨ r = .ok .next) ∧ GF N X Fi Q n s₀ s) ∨ ∃ e, r = .error e ∧ False
structure GEnds where
  nx : Nat → Hp → Hp → L2.St → Hp → Prop
  rt : Nat → Hp → Hp → VK
  bk : Nat → Hp → Hp → L2.St → Hp → Prop := fun _ _ _ _ _ => False
  ct : Nat → Hp → Hp → L2.St → Hp → Prop := fun _ _ _ _ _ => False
/-- the last of the three: the heap at the last wake -/
abbrev TGn := GEnds → Nat → Hp → Hp → L2.St → Hp → Prop
def GEnds.at (D : GEnds) (k : Nat) (B F : Hp) : Ends := { nx := D.nx k B F, rt := D.rt k B F, bk := D.bk k B F, ct := D.ct k B F }
/-- where the generator's code stands -/
structure GC (X : Cx) (A : Around) (c : Code) (fs : List Frame) (gd : Bool → Bool) : Prop where
  over : A.over c fs = X.A
  split : splitAtGen fs = none
  guard : fs.any Frame.guarded = false
  gd : gd false = false
/-- what follows -/
structure GK (N : Nat) (X : Cx) (Fi : GFi) (Z : GZ) (ip : List (Addr × Obj)) (A : Around) (R : GenEnd) (c : Code) (fs : List Frame) (K : Flow → Sem PySem.Fin) (D : GEnds) : Prop where
  ok : ∀ (n k : Nat) (s₀ s : Shared) (H₀ F : Hp) (f : Flow), n + k = N → Fi n s₀ H₀ F → SP (reX X s₀ H₀) ip (D.at k H₀ F) f s → Seg (model X.prog X.w) A R (GY N X Fi Z) n s₀ c (K f) fs s
structure GS (N : Nat) (X : Cx) (Fi : GFi) (Z : GZ) (st : Stmt) (t : TGn) : Prop where
  run : ∀ (A : Around) (ip : List (Addr × Obj)) (R : GenEnd) (n k : Nat) (s₀ : Shared) (H₀ F : Hp) (c : Code) (fs : List Frame) (K : Flow → Sem PySem.Fin) (J : Value → Sem PySem.Fin) (gd : Bool → Bool) (lv : List Value → List Value) (s : Shared) (σ : L2.St) (H : Hp) (D : GEnds),
    GC X A c fs gd → n + k = N → GK N X Fi Z ip A R c fs K D → Fi n s₀ H₀ F → Inv (reX X s₀ H₀) ip σ H s → t D k H₀ F σ H →
    Seg (model X.prog X.w) A R (GY N X Fi Z) n s₀ c ((exec st X.env).wrap K J gd lv) fs s
structure GSs (N : Nat) (X : Cx) (Fi : GFi) (Z : GZ) (st : List Stmt) (t : TGn) : Prop where
  run : ∀ (A : Around) (ip : List (Addr × Obj)) (R : GenEnd) (n k : Nat) (s₀ : Shared) (H₀ F : Hp) (c : Code) (fs : List Frame) (K : Flow → Sem PySem.Fin) (J : Value → Sem PySem.Fin) (gd : Bool → Bool) (lv : List Value → List Value) (s : Shared) (σ : L2.St) (H : Hp) (D : GEnds),
    GC X A c fs gd → n + k = N → GK N X Fi Z ip A R c fs K D → Fi n s₀ H₀ F → Inv (reX X s₀ H₀) ip σ H s → t D k H₀ F σ H →
    Seg (model X.prog X.w) A R (GY N X Fi Z) n s₀ c ((execs st X.env).wrap K J gd lv) fs s
section
variable {N : Nat} {X : Cx} {Fi : GFi} {Z : GZ} {st : Stmt} {rest : List Stmt}
/-- a statement that hands out nothing -/
def tPlain (t : L2.TS) : TGn := fun D k B F σ H => t (D.at k B F) σ H
theorem gs_ps {t : L2.TS} (hx : ∀ e s, ¬ X.xe e s) (h : ∀ s₀ H₀, PS (reX X s₀ H₀) st t) : GS N X Fi Z st (tPlain t) := by
  refine ⟨fun A ip R n k s₀ H₀ F c fs K J gd lv s σ H D g hn kk hf hI ht => ?_⟩
  refine seg_wrap ?_
  rw [g.over]
  exact wpAny_mono ((h s₀ H₀).run ip s σ H (D.at k H₀ F) hI ht) (fun f s' hs => kk.ok n k s₀ s' H₀ F f hn hf hs) fun x s' z => absurd z (hx x s')
theorem gss_pss {t : L2.TS} (hx : ∀ e s, ¬ X.xe e s) (h : ∀ s₀ H₀, PSs (reX X s₀ H₀) rest t) : GSs N X Fi Z rest (tPlain t) := by
  refine ⟨fun A ip R n k s₀ H₀ F c fs K J gd lv s σ H D g hn kk hf hI ht => ?_⟩
  refine seg_wrap ?_
  rw [g.over]
  exact wpAny_mono ((h s₀ H₀).run ip s σ H (D.at k H₀ F) hI ht) (fun f s' hs => kk.ok n k s₀ s' H₀ F f hn hf hs) fun x s' z => absurd z (hx x s')
def tG0 : TGn := fun D k B F σ H => D.nx k B F σ H
theorem gss_nil : GSs N X Fi Z [] tG0 := by
  refine ⟨fun A ip R n k s₀ H₀ F c fs K J gd lv s σ H D g hn kk hf hI ht => ?_⟩
  exact seg_execs_nil (kk.ok n k s₀ s H₀ F .next hn hf ⟨σ, H, hI, ht⟩)
def tGThen (t u : TGn) : TGn := fun D k B F σ H => t { D with nx := fun k' B' F' σ' H' => u D k' B' F' σ' H' } k B F σ H
theorem gss_cons {t u : TGn} (a : GS N X Fi Z st t) (b : GSs N X Fi Z rest u) : GSs N X Fi Z (st :: rest) (tGThen t u) := by
  refine ⟨fun A ip R n k s₀ H₀ F c fs K J gd lv s σ H D g hn kk hf hI ht => ?_⟩
  refine seg_execs_cons ?_
  refine a.run A ip R n k s₀ H₀ F c fs _ J gd lv s σ H { D with nx := fun k' B' F' σ' H' => u D k' B' F' σ' H' } g hn ⟨fun n' k' s₀' s' H₀' F' f hn' hf' hs => ?_⟩ hf hI ht
  cases f with
  | next =>
    obtain ⟨σ', H', I', q⟩ := hs
    exact b.run A ip R n' k' s₀' H₀' F' c fs K J gd lv s' σ' H' D g hn' kk hf' I' q
  | brk => exact kk.ok n' k' s₀' s' H₀' F' .brk hn' hf' hs
  | cont => exact kk.ok n' k' s₀' s' H₀' F' .cont hn' hf' hs
  | ret u => exact kk.ok n' k' s₀' s' H₀' F' (.ret u) hn' hf' hs
/-! ### while -/
def tGWhile (c : TT) (tb : TGn) : TGn := fun D k B F σ H => ∃ W : Nat → Nat → Hp → Hp → L2.St → Hp → Prop, (∃ m, W m k B F σ H) ∧ ∀ m k B F σ H, W m k B F σ H →
  c σ H fun b H1 => if b = true then ∃ M : Nat → Hp → Hp → L2.St → Hp → Prop, (∀ k' B' F' σ' H', M k' B' F' σ' H' → ∃ m', m' < m ∧ W m' k' B' F' σ' H') ∧ tb { D with nx := M, ct := M, bk := D.nx } k B F σ H1 else D.nx k B F σ H1
theorem gc_loop {A : Around} {c c' : Code} {fs : List Frame} {gd : Bool → Bool} {k : Result → Sem PySem.Fin} {l kp : List Value} {p : Pos} (g : GC X A c fs gd) (hw : c'.weight = 0) (hu : c'.cUnits = 0) :
    GC X A c' (.ret k none (gd false) l c p kp :: fs) id where
  over := (over_loop hw hu).trans g.over
  split := by
    show (splitAtGen fs).map _ = none
    rw [g.split]; rfl
  guard := by
    show (gd false || fs.any Frame.guarded) = false
    rw [g.gd, g.guard]; rfl
  gd := rfl
theorem gs_while {test : Expr} {body : List Stmt} {pos : Pos} {tc : TT} {tb : TGn} (hx : ∀ e s, ¬ X.xe e s) (hc : ∀ s₀ H₀, L2.PT (reX X s₀ H₀) test tc) (hb : GSs N X Fi Z body tb) : GS N X Fi Z (.While test body [] pos) (tGWhile tc tb) := by
  refine ⟨fun A ip R n k s₀ H₀ F c fs K J gd lv s σ H D g hn kk hf hI ht => ?_⟩
  obtain ⟨W, ⟨m0, w0⟩, turn⟩ := ht
  refine seg_While fun p => ?_
  have gl := fun (kk : Result → Sem PySem.Fin) => gc_loop (k := kk) (c' := .whileLoop test body [] X.env) (l := lv []) (kp := []) (p := p) g rfl rfl
  have loop : ∀ (m n k : Nat) (s₀ s : Shared) (H₀ F : Hp) (σ : L2.St) (H : Hp), n + k = N → W m k H₀ F σ H → Fi n s₀ H₀ F → Inv (reX X s₀ H₀) ip σ H s →
      Seg (model X.prog X.w) A R (GY N X Fi Z) n s₀ (.whileLoop test body [] X.env) ((model X.prog X.w).den (.whileLoop test body [] X.env))
        (.ret (fun r => ((match r with | .ok f => (.pure f : Sem Flow) | .error e => .raise e).onRaise (cameBack X.env)).wrap K J gd lv) none (gd false) (lv []) c p [] :: fs) s := by
    intro m
    induction m using Nat.strongRecOn with
    | ind m ih =>
      intro n k s₀ s H₀ F σ H hn w hf I
      refine seg_whileLoop ?_
      rw [(gl _).over]
      refine wpAny_mono ((hc s₀ H₀).run ip s σ H _ I (turn m k H₀ F σ H w)) (fun b s' hb' => ?_) fun x s' z => absurd z (hx x s')
      obtain ⟨H2, I2, q2⟩ := hb'
      cases b with
      | true =>
        obtain ⟨M, hM, q2⟩ := q2
        rw [if_pos rfl]
        refine hb.run A ip R n k s₀ H₀ F _ _ _ _ id id s' σ H2 { D with nx := M, ct := M, bk := D.nx } (gl _) hn ⟨fun n' k' s₀' s3 H₀' F' f hn' hf' hs => ?_⟩ hf I2 q2
        cases f with
        | next =>
          obtain ⟨σ3, H3, I3, n3⟩ := hs
          obtain ⟨m', hm, w3⟩ := hM k' H₀' F' σ3 H3 n3
          exact seg_again rfl (ih m' hm n' k' s₀' s3 H₀' F' σ3 H3 hn' w3 hf' I3)
        | cont =>
          obtain ⟨σ3, H3, I3, n3⟩ := hs
          obtain ⟨m', hm, w3⟩ := hM k' H₀' F' σ3 H3 n3
          exact seg_again rfl (ih m' hm n' k' s₀' s3 H₀' F' σ3 H3 hn' w3 hf' I3)
        | brk => exact seg_leaf (.ok .next) (kk.ok n' k' s₀' s3 H₀' F' .next hn' hf' hs)
        | ret v => exact seg_leaf (.ok (.ret v)) (kk.ok n' k' s₀' s3 H₀' F' (.ret v) hn' hf' hs)
      | false =>
        rw [if_neg Bool.false_ne_true]
        refine seg_execs_nil ?_
        exact seg_leaf (.ok .next) (kk.ok n k s₀ s' H₀ F .next hn hf ⟨σ, H2, I2, q2⟩)
  exact loop m0 n k s₀ s H₀ F σ H hn w0 hf hI
/-! ### yield -/
def tGYield (N : Nat) (Z : GZ) (te : L2.TE) : TGn := fun D k B F σ H => k + 1 < N ∧ te σ H fun x H1 => ∃ G, Z k x F B G H1 ∧ Same B H1 ∧ ∀ H2 F2, Same G F2 → Same F2 H2 → D.nx (k + 1) H2 F2 σ H2
theorem gs_yield {e : Expr} {yp pos : Pos} {te : L2.TE} (hx : ∀ e s, ¬ X.xe e s) (he : ∀ s₀ H₀, PE (reX X s₀ H₀) e te) (hco : X.env.scope.isCoroutine = false) (hi : interactive X.env = false) : GS N X Fi Z (.Expr (.Yield (some e) yp) pos) (tGYield N Z te) := by
  refine ⟨fun A ip R n k s₀ H₀ F c fs K J gd lv s σ H D g hn kk hf hI ht => ?_⟩
  obtain ⟨hlt, ht⟩ := ht
  obtain ⟨n, rfl⟩ : ∃ m, n = m + 1 := ⟨n - 1, by omega⟩
  refine seg_Expr_Yield g.split g.gd g.guard ?_ hco hi
  rw [g.over]
  refine wpAny_mono ((he s₀ H₀).run ip s σ H _ hI ht) (fun v s' hv => ?_) fun x s' z => absurd z (hx x s')
  obtain ⟨x, H1, I1, rv, G, q1, q3, q2⟩ := hv
  intro kap hk
  refine ⟨k, x, ip, σ, H1, H₀, F, G, hn, by omega, hf, rv, q1, q3, I1, fun s'' H2 F2 l2 l3 hf2 G2 => hk .none s'' ?_⟩
  exact kk.ok n (k + 1) s'' s'' H2 F2 .next (by omega) hf2 ⟨σ, H2, G2, q2 H2 F2 l2 l3⟩
end
end PT

/-! GN: a turn leaves the generator asleep. -/
namespace PT
open PySem PySem.Spec PyProof.Rows L2 GenW
/-- what a generator's state does when it is woken with one turn less -/
def kapG (M : Model) (A : Around) (R : GenEnd) (Y : Protocol) (gs : GenState) : Nat → Resume → Shared → Prop
  | 0 => fun _ _ => False
  | m + 1 => fun r s => gs.Goes M A R Y m r s
theorem resumeS {M : Model} {A : Around} {R : GenEnd} {Y : Protocol} {n : Nat} {E : Value → Shared → Prop} {s : Shared} {g : Nat} {gs : GenState}
    {r : Resume} {l : List Value} {α : Type} {k : GenResult → Sem α} {Q : α → Shared → Prop} (hg : s.gens[g]? = some gs) (hgo : gs.Goes M A R Y n r (s.setGen g .running))
    (hR : ∀ x s₁, R n (s.setGen g .running) x s₁ → wpAny M A (k (End.ret x).result) Q E (s₁.setGen g .finished))
    (hY : ∀ v s₁ gs', gs'.bare = true → asleep gs' = true → Y (n - 1) (s.setGen g .running) v s₁ (kapG M A R Y gs' n) → wpAny M A (k (.yielded v)) Q E (s₁.setGen g gs')) :
    wpAny M A (.resume g r l k) Q E s := by
  intro Γ p hΓ
  rw [Sem.wp_resume]
  have hB : ∀ c, (Γ.wake c p).Woken A := fun c => hΓ.wake c p
  have fin : ∀ e₁ s₁, SegEnd R Y n (Seg.next M A R Y n) (s.setGen g .running) e₁ s₁ → Sem.wp M Γ (k e₁.result) (fun a _ s' => Q a s') (fun e _ s' => E e s') p (s₁.setGen g e₁.genState) := by
    intro e₁ s₁ he
    cases e₁ with
    | ret x => exact hR x s₁ he Γ p hΓ
    | susp v g₀ l₀ k₀ c₀ p₀ fs₀ =>
      refine hY v s₁ _ (End.bare_of_quiet he.1) rfl ?_ Γ p hΓ
      cases n with
      | zero => exact he.2
      | succ m => exact he.2
  have hqt : ∀ e₁ s₁, SegEnd R Y n (Seg.next M A R Y n) (s.setGen g .running) e₁ s₁ → e₁.quiet = true := by
    intro e₁ s₁ he
    cases e₁ with
    | ret x => rfl
    | susp v g₀ l₀ k₀ c₀ p₀ fs₀ => exact he.1
  cases gs with
  | fresh c =>
    obtain ⟨rfl, hs⟩ := hgo
    obtain ⟨e₁, s₁, hr, he⟩ := seg_iff.mp hs (Γ.wake c p) p rfl (hB c)
    exact ⟨_, _, by unfold Wakes; rw [hg]; exact ⟨e₁, s₁, hr, hqt e₁ s₁ he, rfl, rfl⟩, fin e₁ s₁ he⟩
  | suspended k₀ l₀ c₀ p₀ fs₀ cl =>
    obtain ⟨e₁, s₁, hr, he⟩ := seg_iff.mp hgo (Γ.wake c₀ p) p₀ rfl (hB c₀)
    exact ⟨_, _, by unfold Wakes; rw [hg]; exact ⟨e₁, s₁, hr, hqt e₁ s₁ he, rfl, rfl⟩, fin e₁ s₁ he⟩
  | running => exact hgo.elim
  | finished => exact hgo.elim
theorem gnextS {P : Program} {w : World} {A : Around} {E : Value → Shared → Prop} {s : Shared} {a : Addr} {g n : Nat} {gs : GenState} {F : Nat → Shared → Shared → Prop} {Y : Protocol} {Q : Option Value → Shared → Prop} (hh : A.handled = none)
    (hl : s.heap.NoLimit) (hroom : A.depth < recursionLimit) (hg : s.heap.IsGen a g) (hgs : s.gens[g]? = some gs)
    (hgo : gs.Goes (model P w) A.in1 (fun n s₀ r s₁ => ((r = .ok (.ret .none) ∨ r = .ok .next) ∧ F n s₀ s₁) ∨ ∃ e, r = .error e ∧ False) Y n (.send .none) (s.setGen g .running))
    (hY : ∀ v s₁ gs', gs'.bare = true → asleep gs' = true → Y (n - 1) (s.setGen g .running) v s₁ (kapG (model P w) A.in1 (fun n s₀ r s₁ => ((r = .ok (.ret .none) ∨ r = .ok .next) ∧ F n s₀ s₁) ∨ ∃ e, r = .error e ∧ False) Y gs' n) → Q (some v) (s₁.setGen g gs'))
    (hP : ∀ s₁, F n (s.setGen g .running) s₁ → ∀ h', (∀ b o, s₁.heap.get? b = some o → h'.get? b = some o) → Q none { s₁.setGen g .finished with heap := h' }) :
    wpAny (model P w) A (pyNext (.ref a)) Q E s := by
  unfold pyNext
  refine wpAny_bind (wpAny_attempt (wpAny_callSpecial?_slot (name := Str.ofString "__next__") hg.typeIs slot_gen_next
    (wpAny_call_entry slot_gen_next hg.typeIs entry_gen_next ?_ (args_gen_next _))))
  show wpAny _ A.in1 (Builtin.Generator.genWake (.ref a) (.send .none)) _ _ s
  unfold Builtin.Generator.genWake
  refine wpAny_bind (wpAny_holding (wpAny_genNumber hg (wpAny_bind (wpAny_genState hgs ?_))))
  cases gs with
  | running => exact hgo.elim
  | finished => exact hgo.elim
  | _ =>
    refine wpAny_bind (wpAny_roomToWake hl hroom ?_)
    show wpAny _ A.in1 (.resume g (.send .none) [] _) _ _ s
    refine resumeS hgs hgo (fun x s₁ hx => ?_) (fun v s₁ gs' hb ha hv => ?_)
    · rcases hx with ⟨hr, hp⟩ | ⟨e, rfl, he⟩
      · have hres : End.result (.ret x) = .returned .none := by
          rcases hr with hr | hr <;> rw [hr] <;> rfl
        first | rw [hres] | simp only [hres]
        show wpAny _ A.in1 (newExc (.type "StopIteration") [] >>= _) _ _ _
        refine wpAny_bind ?_
        simp only [newExc, newTuple]
        refine wpAny_bind (wpAny_newObj_type ?_ (by size_fits))
        refine wpAny_bind (m := firstArgMember _ _) (wpAny_of_eq (a := Value.none) (by first | rfl | (simp only [firstArgMember]; rfl)) ?_)
        refine wpAny_newObj_type ?_ (by size_fits)
        simp only [raiseNew]
        refine wpAny_bind (wpAny_bind (wpAny_handled ?_))
        first | rw [show A.in1.handled = none from hh] | rw [hh]
        refine wpAny_throw ?_
        refine wpAny_bind (wpAny_isInstance (T := "StopIteration") (b := true) ⟨_, Heap.get?_push_size _ rfl, rfl⟩ isSubtype_stop ?_)
        exact wpAny_pure (hP s₁ hp _ fun b o hb => Heap.get?_push_of_some _ (Heap.get?_push_of_some _ hb))
      · exact he.elim
    · exact wpAny_pure ⟨v, rfl, wpAny_pure (hY v s₁ gs' hb ha hv)⟩
end PT

/-! G4: a generator's turn, seen by its consumer. -/
namespace PT
open PySem PySem.Spec PyProof.Rows L2 GenW
/-- what a generator's frame (context X, own object at a, frame younger than n0) and its consumer's have in common -/
structure OwnG (Xc X : Cx) (a : Addr) (n0 : Nat) : Prop where
  prog : X.prog = Xc.prog
  w : X.w = Xc.w
  base : X.base = Xc.base
  outer : X.outer = Xc.stack
  ex : X.ex = []
  loc : X.env.locals = n0
  cells : ∀ x, X.env.cells.lookup x = none
  fs : X.fs = frs X.outer
  fr : ∀ b ∈ frs Xc.stack, (b : Nat) < n0
  pn : ∃ go, X.pn = [(a, go)]
  low : Xc.s_0.heap.objs.size ≤ n0
  lloc : (Xc.env.locals : Nat) < n0
  lcell : ∀ x c, Xc.env.cells.lookup x = some c → (c : Nat) < n0
  inst : Xc.env.locals ∈ frs Xc.stack ∧ ∀ b ∈ Xc.fs, b ∈ frs Xc.stack
/-- the generator's private objects stand as they were left, and the consumer tracks none of them -/
def Prv (X : Cx) (ip : List (Addr × Obj)) (oL : Obj) (H : Hp) (s : Shared) : Prop := ∀ p ∈ (X.env.locals, oL) :: (X.pn ++ ip), s.heap.get? p.1 = some p.2 ∧ H p.1 = none ∧ p.1 ∉ X.fs ∧ ∀ v, p.2.data ≠ .cell v
/-- a generator that is not running: its state, its frame as it was left -/
def Slp (N : Nat) (X : Cx) (Fi : GFi) (Z : GZ) (Qe : Nat → Hp → Prop) (A : Around) (g n : Nat) (ip : List (Addr × Obj)) (oL : Obj) (Hg G : Hp) (s : Shared) : Prop :=
  ∃ gs σg sb Hb sg, s.gens[g]? = some gs ∧ sb.heap.objs.size = X.env.locals ∧ Inv { X with s_0 := sb, H_0 := Hb } ip σg Hg sg ∧ sg.heap.get? X.env.locals = some oL ∧
    ∀ s' H' F', Same G F' → Same F' H' → Fi n s' H' F' → Inv (reX X s' H') ip σg H' s' → gs.Goes (model X.prog X.w) A (GR N X Fi Qe) (GY N X Fi Z) n (.send .none) s'
section
variable {N : Nat} {Xc X : Cx} {Fi : GFi} {Z : GZ} {Qe : Nat → Hp → Prop} {A : Around} {a : Addr} {g n n0 : Nat} {ip pins : List (Addr × Obj)} {Hg Hc : Hp} {σc : L2.St} {s : Shared} {oL : Obj} {W : Nat → L2.St → Hp → Hp → Prop} {G Fc : Hp}
theorem inv_gens {X : Cx} {σ : L2.St} {H : Hp} {s : Shared} {G : Array GenState} (I : Inv X pins σ H s) (hb : AllBare G) : Inv X pins σ H { s with gens := G } :=
  I.call' (ch := []) rfl (Un.kept fun _ _ e => e) (I.hok.kept fun _ _ e => e) hb fun b hb => by cases hb
theorem inv_more {X : Cx} {σ : L2.St} {H : Hp} {s : Shared} {G : Array GenState} {h' : Heap} (I : Inv X pins σ H s) (hk : ∀ b o, s.heap.get? b = some o → h'.get? b = some o) (hb : AllBare G) : Inv X pins σ H ({ s with gens := G, heap := h' } : Shared) :=
  I.call' (ch := []) rfl (Un.kept hk) (I.hok.kept hk) hb fun b hb => by cases hb
theorem slp_wake {sb : Shared} {Hb : Hp} {σg : L2.St} {sg s' : Shared} (O : OwnG Xc X a n0) (I : Inv Xc pins σc Hc s') (P : Prv X ip oL Hc s') (hsz : sb.heap.objs.size = X.env.locals) (J : Inv { X with s_0 := sb, H_0 := Hb } ip σg Hg sg) (eL : sg.heap.get? X.env.locals = some oL) :
    Inv (reX X s' Hc) ip σg Hc s' := by
  have pl := P (X.env.locals, oL) List.mem_cons_self
  have lt := Heap.lt_size pl.1
  refine wake_inv (X := { X with s_0 := sb, H_0 := Hb }) hsz J (Nat.le_of_lt lt) (fun b o e => ?_) ?_ (fun b hb => ?_) I.bare (fun o e => ?_) (fun x c h => ?_) (fun p hp => ⟨(P p (List.mem_cons_of_mem _ hp)).1, (P p (List.mem_cons_of_mem _ hp)).2.1⟩) pl.2.1 (fun x c h => ?_) ?_
  · have e : X.base.get? b = some o := e
    rw [O.base] at e
    exact I.bs b o e
  · show s'.heap.FunFrames X.base X.outer
    rw [O.base, O.outer]
    exact I.stack
  · have hb : b ∈ X.fs := hb
    rw [O.fs, O.outer] at hb
    refine ⟨?_, I.stkFree b hb⟩
    show (b : Nat) < X.env.locals
    rw [O.loc]
    exact O.fr b hb
  · have e : sg.heap.get? X.env.locals = some o := e
    rw [eL] at e
    cases e
    exact pl.1
  · have h : X.env.cells.lookup x = some c := h
    rw [O.cells] at h
    cases h
  · have h : X.env.cells.lookup x = some c := h
    rw [O.cells] at h
    cases h
  · show HOk X.prog X.w Hc s'.heap
    rw [O.prog, O.w]
    exact I.hok
theorem back0 {H : Hp} : backH [] H = H := by
  funext b
  unfold backH
  rw [if_neg (by simp)]
theorem slp_back {ip1 : List (Addr × Obj)} {σ1 σg : L2.St} {H₀ H1 : Hp} {s₀ s1 : Shared} (O : OwnG Xc X a n0) (hpin : ∀ p ∈ Xc.pn ++ pins, (p.1 : Nat) < n0) (I : Inv Xc pins σ1 H₀ s₀) (J : Inv (reX X s₀ H₀) ip1 σg H1 s1) (le : Same H₀ H1) : Inv Xc pins σ1 H1 s1 := by
  have := back_inv (Xg := X) [] I J O.prog.symm O.w.symm O.outer O.ex (fun b _ => rfl) le (fun b hb => by cases hb) (fun p hp l => absurd (hpin p hp) (by rw [O.loc] at l; exact Nat.not_lt.mpr l)) (by rw [O.loc]; exact O.low) (by rw [O.loc]; exact O.lloc) (fun x c e => by rw [O.loc]; exact O.lcell x c e) (fun b hb => by rw [O.loc]; exact O.fr b hb)
  rw [back0] at this
  exact this
/-- next(g) -/
theorem turnG {Q : Option Value → Shared → Prop} {E : Value → Shared → Prop} (O : OwnG Xc X a n0) (hpin : ∀ p ∈ Xc.pn ++ pins, (p.1 : Nat) < n0) (hF : ∀ n s H F, Fi n s H F ↔ ∃ σ, Inv Xc pins σ H s ∧ W n σ H F) (I : Inv Xc pins σc Hc s) (w : W n σc Hc Fc) (h1 : 1 ≤ n)
    (sl : Slp N X Fi Z Qe A.in1 g n ip oL Hg G s) (gen : s.heap.IsGen a g) (P : Prv X ip oL Hc s) (leG : Same G Fc) (leF : Same Fc Hc) (hh : A.handled = none) (hroom : A.depth < recursionLimit)
    (hY : ∀ m k x v σ1 H₀ F₀ G1 H1 ip1 oL1 s1, n = m + 1 → m + 1 + k = N → 1 ≤ m → RelV x v → Z k x F₀ H₀ G1 H1 → Same H₀ H1 → Inv Xc pins σ1 H1 s1 → W n σ1 H₀ F₀ → Slp N X Fi Z Qe A.in1 g m ip1 oL1 H1 G1 s1 → (∃ y, s1.gens[g]? = some y ∧ asleep y = true) → s1.heap.IsGen a g → Prv X ip1 oL1 H1 s1 → Q (some v) s1)
    (hP : ∀ k σ1 H₀ F₀ H1 s1, n + k = N → Inv Xc pins σ1 H1 s1 → W n σ1 H₀ F₀ → Same H₀ H1 → Qe k H1 → Q none s1) : wpAny (model Xc.prog Xc.w) A (pyNext (.ref a)) Q E s := by
  obtain ⟨gs, σg, sb, Hb, sg, hgs, hsz, J, eL, go⟩ := sl
  obtain ⟨m, rfl⟩ : ∃ m, n = m + 1 := ⟨n - 1, by omega⟩
  have hgl : g < s.gens.size := (Array.getElem?_eq_some_iff.mp hgs).1
  have ab : AllBare (s.setGen g .running).gens := allBare_setGen I.bare rfl
  have I0 : Inv Xc pins σc Hc (s.setGen g .running) := inv_gens I ab
  have K0 := slp_wake (s' := s.setGen g .running) O I0 P hsz J eL
  have goes := go (s.setGen g .running) Hc Fc leG leF ((hF _ _ _ _).mpr ⟨σc, I0, w⟩) K0
  have pl := P (X.env.locals, oL) List.mem_cons_self
  have lt := Heap.lt_size pl.1
  obtain ⟨gob, epn⟩ := O.pn
  have ga : s.heap.get? a = some gob := (P (a, gob) (List.mem_cons_of_mem _ (by rw [epn]; simp))).1
  rw [O.prog, O.w] at goes
  refine wpAny_gsz (n := g + 1) hgl (gnextS (F := GF N X Fi Qe) (Y := GY N X Fi Z) hh I.nolimit hroom gen hgs goes (fun v s₁ gs' hb ha hy => ?_) (fun s₁ hp h' hk => ?_))
  · intro hsz1
    obtain ⟨k, x, ip1, σ1, H1, H₀, F₀, G1, hn, hm, hf, rv, z, le1, I1, hk⟩ := hy
    obtain ⟨σ2, I2, w2⟩ := (hF _ _ _ _).mp hf
    have I3 := slp_back O hpin I2 I1 le1
    have b1 : AllBare (s₁.setGen g gs').gens := allBare_setGen I3.bare hb
    obtain ⟨mm, ⟨o, es, ep, h1, h2, _⟩, _⟩ := id I1.loc
    have gsz : g < s₁.gens.size := by
      have q : (s₁.setGen g gs').gens.size = s₁.gens.size := setGen_size _ _ _
      have hsz1 : g + 1 ≤ (s₁.setGen g gs').gens.size := hsz1
      omega
    refine hY m k x v σ2 H₀ F₀ G1 H1 ip1 o (s₁.setGen g gs') rfl hn hm rv z le1 (inv_gens I3 b1) w2 ⟨gs', σ1, _, _, s₁, setGen_at gsz, pre_size (Nat.le_of_lt lt), I1, h1, fun s' H' F' l2 l3 f' K' => by rw [O.prog, O.w]; exact hk s' H' F' l2 l3 f' K'⟩ ⟨gs', setGen_at gsz, ha⟩ ?_ fun p hp => ?_
    · obtain ⟨oo, nm, qn, ho, r⟩ := gen
      rw [ga] at ho
      cases ho
      exact ⟨gob, nm, qn, (I1.pin (a, gob) (List.mem_append_left _ (by show (a, gob) ∈ X.pn; rw [epn]; simp))).1, r⟩
    · rcases List.mem_cons.mp hp with e | hp
      · rw [e]
        refine ⟨h1, I1.free, fun m => ?_, fun v z => ?_⟩
        · have m : X.env.locals ∈ X.fs := m
          rw [O.fs, O.outer] at m
          have := O.fr _ m
          rw [O.loc] at this
          exact absurd this (Nat.lt_irrefl _)
        · have z : o.data = .cell v := z
          rw [h2] at z
          cases z
      · obtain ⟨q1, q2, _, q4, q5⟩ := I1.pin p hp
        exact ⟨q1, q2, q4, q5⟩
  · intro hsz1
    obtain ⟨k, ip1, σ1, H1, H₀, F₀, hn, hf, I1, q, le1⟩ := hp
    obtain ⟨σ2, I2, w2⟩ := (hF _ _ _ _).mp hf
    have I3 := slp_back O hpin I2 I1 le1
    have b1 : AllBare (s₁.setGen g .finished).gens := allBare_setGen I3.bare rfl
    have I4 : Inv Xc pins σ2 H1 { s₁.setGen g .finished with heap := h' } := inv_more (s := s₁) (G := (s₁.setGen g .finished).gens) I3 hk b1
    exact hP k σ2 H₀ F₀ H1 _ hn I4 w2 le1 q
end
end PT

/-! G5: for x in g(..): body. -/
namespace PT
open PySem PySem.Spec PyProof.Rows L2 GenW
section
variable {X : Cx} {pins : List (Addr × Obj)} {σ : L2.St} {H : Hp} {s s' s₁ : Shared}
theorem drug_bare (b : AllBare s.gens) : AllBare (drugged s).gens := fun y hy => by
  have hy : y ∈ s.gens.map poison := hy
  obtain ⟨x, hx, e⟩ := Array.mem_map.mp hy
  rw [← e]
  exact poison_bare (b x hx)
theorem sim_bare (S : Sim (sleepB s) s' s₁) (b : AllBare s.gens) (b1 : AllBare s₁.gens) : AllBare s'.gens := fun y hy => by
  obtain ⟨i, hi, e⟩ := Array.mem_iff_getElem.mp hy
  have ey : s'.gens[i]? = some y := by rw [Array.getElem?_eq_getElem hi, e]
  cases z : sleepB s i with
  | some x =>
    obtain ⟨q1, _, _⟩ := S.at_ i x z
    rw [ey] at q1
    cases q1
    unfold sleepB at z
    cases w : s.gens[i]? with
    | none => rw [w] at z; cases z
    | some u =>
      rw [w] at z
      dsimp only at z
      split at z
      · cases z
        exact b y (Array.mem_of_getElem? w)
      · cases z
  | none =>
    have q := (S.eq i z).1
    rw [ey] at q
    exact b1 y (Array.mem_of_getElem? q)
theorem sim_inv (S : Sim (sleepB s) s' s₁) (b : AllBare s.gens) (I : Inv X pins σ H s₁) : Inv X pins σ H s' := by
  have hb := sim_bare S b I.bare
  have := inv_gens I hb
  obtain ⟨h1, h2, h3, h4, _, _, _⟩ := S
  obtain ⟨a1, a2, a3, a4, a5⟩ := s'
  obtain ⟨b1, b2, b3, b4, b5⟩ := s₁
  simp only at h1 h2 h3 h4
  subst h1 h2 h3 h4
  exact this
/-- pinned more -/
theorem inv_pin {more : List (Addr × Obj)} (I : Inv X pins σ H s) (h : ∀ p ∈ more, s.heap.get? p.1 = some p.2 ∧ H p.1 = none ∧ p.1 ≠ X.env.locals ∧ p.1 ∉ X.fs ∧ ∀ v, p.2.data ≠ .cell v) : Inv X (pins ++ more) σ H s :=
  ⟨I.ok, I.os, I.bare, I.base, I.loc, I.cell, I.free, I.freeC, fun p hp => by
    rcases List.mem_append.mp hp with q | q
    · exact I.pin p (List.mem_append_left _ q)
    · rcases List.mem_append.mp q with q | q
      · exact I.pin p (List.mem_append_right _ q)
      · exact h p q, I.hok, I.len⟩
theorem inv_unpin {more : List (Addr × Obj)} (I : Inv X (pins ++ more) σ H s) : Inv X pins σ H s :=
  ⟨I.ok, I.os, I.bare, I.base, I.loc, I.cell, I.free, I.freeC, fun p hp => I.pin p (by
    rcases List.mem_append.mp hp with q | q
    · exact List.mem_append_left _ q
    · exact List.mem_append_right _ (List.mem_append_left _ q)), I.hok, I.len⟩
/-- a run beside the sleeping generator g leaves it as it is -/
theorem beside {α : Type} {M : Model} {A : Around} {t : Sem α} {R : α → Shared → Prop} {E : Value → Shared → Prop} {g : Nat} {y : GenState} (hy : s.gens[g]? = some y) (ha : asleep y = true) (h : wpAny M A t R (fun _ _ => False) (drugged s)) :
    wpAny M A t (fun a s' => s'.gens[g]? = some y ∧ ∃ s₁, Sim (sleepB s) s' s₁ ∧ R a s₁) E s :=
  wpAny_mono (wpAny_asleep h) (fun a s' q => ⟨q.1 g y hy ha, q.2⟩) fun e s' q => by
    obtain ⟨_, _, _, z⟩ := q
    exact z.elim
end
/-- what a call of a generator def gives: a generator that has not begun -/
def MadeG (Xc : Cx) (pins : List (Addr × Obj)) (N : Nat) (Z : GZ) (Qe : Nat → Hp → Prop) (H1 G : Hp) (a : Addr) (g : Nat) (s' : Shared) : Prop :=
  s'.heap.IsGen a g ∧ ∃ X n0 oL, OwnG Xc X a n0 ∧ (∀ p ∈ Xc.pn ++ pins, (p.1 : Nat) < n0) ∧ Prv X [] oL H1 s' ∧ ∀ Fi, Slp N X Fi Z Qe Xc.A.in1 g N [] oL H1 G s'
/-- the last two: what the generator has frozen; the heap -/
abbrev TGm := L2.St → Hp → (Nat → GZ → (Nat → Hp → Prop) → Hp → Hp → Prop) → Prop
structure PGm (Xc : Cx) (e : Expr) (tg : TGm) : Prop where
  run : ∀ (pins : List (Addr × Obj)) (s : Shared) (σ : L2.St) (H : Hp) (R : Nat → GZ → (Nat → Hp → Prop) → Hp → Hp → Prop), Inv Xc pins σ H s → tg σ H R → wpAny (model Xc.prog Xc.w) Xc.A (eval e Xc.env)
    (fun u s' => ∃ a g N Z Qe G H1, u = .ref a ∧ Inv Xc pins σ H1 s' ∧ R N Z Qe G H1 ∧ MadeG Xc pins N Z Qe H1 G a g s') Xc.xe s
def tForG (tg : TGm) (gt : L2.TG) (tb : L2.TS) : L2.TS := fun D σ H => tg σ H fun N Z Qe G H1 => 1 ≤ N ∧ ∃ (W : Nat → L2.St → Hp → Hp → Prop) (F1 : Hp), W N σ H1 F1 ∧ Same G F1 ∧ Same F1 H1 ∧
  (∀ m k x σ1 H₀ F₀ G2 H2, m + 1 + k = N → 1 ≤ m → W (m + 1) σ1 H₀ F₀ → Same H₀ H2 → Z k x F₀ H₀ G2 H2 → gt x σ1 H2 fun σ3 H3 => tb { D with nx := fun σ' H' => ∃ F', W m σ' H' F' ∧ Same G2 F' ∧ Same F' H', ct := fun σ' H' => ∃ F', W m σ' H' F' ∧ Same G2 F' ∧ Same F' H', bk := D.nx } σ3 H3) ∧
  (∀ n k σ1 H₀ F₀ H2, n + k = N → W n σ1 H₀ F₀ → Same H₀ H2 → Qe k H2 → D.nx σ1 H2)
theorem ps_forG {X : Cx} {tg iter : Expr} {body : List Stmt} {tgm : TGm} {gt : L2.TG} {tb : L2.TS} {pos : Pos} (hx : ∀ e s, ¬ X.xe e s) (hx0 : X.xe = fun _ _ => False) (hp : PassesOwn (model X.prog X.w) X.A X.env X.xe) (hc : X.calm = true) (hroom : X.A.depth < recursionLimit) (hi : PGm X iter tgm) (hg : PG X tg gt) (hb : PSs X body tb)
    (hs : ∀ x, foldedSetIterable iter X.env x = pure x) : PS X (.For tg iter body [] pos) (tForG tgm gt tb) := by
  refine ⟨fun pins s σ H D I h => ?_⟩
  refine wpAny_For (thn (hi.run pins s σ H _ I h) fun v s1 h1 => ?_) hs
  obtain ⟨a, g, N, Z, Qe, G, H1, rfl, I1, ⟨hN, W, F1, w0, lG, lF, step, fin⟩, gen, Y, n0, oL, O, hpin, P, sl⟩ := h1
  refine wpAny_pyIter_gen gen ?_
  let Fi : GFi := fun n s H F => ∃ σ, Inv X pins σ H s ∧ W n σ H F
  have hh : X.A.handled = none := I1.ok.hd hc
  refine codeAny_forLoop_any (fun n s' => ∃ σ' H' F' ip oL Hg Gg, Inv X pins σ' H' s' ∧ W n σ' H' F' ∧ 1 ≤ n ∧ Slp N Y Fi Z Qe X.A.in1 g n ip oL Hg Gg s' ∧ s'.heap.IsGen a g ∧ Prv Y ip oL H' s' ∧ Same Gg F' ∧ Same F' H') ?_ N ⟨σ, H1, F1, [], oL, H1, G, I1, w0, hN, sl Fi, gen, P, lG, lF⟩
  rintro n s3 ⟨σ3, H3, F3, ip, oL3, Hg, Gg, I3, w3, hn, sl3, gen3, P3, lG3, lF3⟩
  refine wpAny_passesOwn hp (turnG (Fi := Fi) (W := W) O hpin (fun _ _ _ _ => Iff.rfl) I3 w3 hn sl3 gen3 P3 lG3 lF3 hh hroom (fun m k x v σ1 H₀ F₀ G2 H2 ip1 oL1 s4 e hk hm rv z le I4 w4 sl4 hy gen4 P4 => ?_) fun k σ1 H₀ F₀ H2 s4 hk I4 w4 le q => ?_)
  · subst e
    obtain ⟨oo, nm, qn, ho, hcl, hdt, hsl⟩ := id gen4
    refine go_of ho hcl hdt (by decide) ?_
    obtain ⟨y, hy, ha⟩ := hy
    have more : ∀ p ∈ (Y.env.locals, oL1) :: (Y.pn ++ ip1), s4.heap.get? p.1 = some p.2 ∧ H2 p.1 = none ∧ p.1 ≠ X.env.locals ∧ p.1 ∉ X.fs ∧ ∀ v, p.2.data ≠ .cell v := fun p hp => by
      obtain ⟨q1, q2, q3, q4⟩ := P4 p hp
      rw [O.fs, O.outer] at q3
      exact ⟨q1, q2, fun z => q3 (by rw [z]; exact O.inst.1), fun z => q3 (O.inst.2 _ z), q4⟩
    have I5 := inv_pin I4 more
    have r1 := hg.run _ (drugged s4) σ1 H2 x v _ (inv_gens I5 (drug_bare I4.bare)) rv (step m k x σ1 H₀ F₀ G2 H2 (by omega) hm w4 le z)
    rw [hx0] at r1
    refine wpAny_passesOwn hp (thn (beside hy ha r1) fun _ s6 h6 => ?_)
    obtain ⟨hy6, s6', S6, σ6, H6, I6', q6⟩ := h6
    have I6 := sim_inv S6 I4.bare I6'
    have r2 := hb.run _ (drugged s6) σ6 H6 _ (inv_gens I6 (drug_bare I6.bare)) q6
    rw [hx0] at r2
    refine wpAny_passesOwn hp (thn (beside hy6 ha r2) fun f s7 h7 => ?_)
    obtain ⟨hy7, s7', S7, q7⟩ := h7
    have again : ∀ {σ7 : L2.St} {H7 : Hp}, Inv X (pins ++ ((Y.env.locals, oL1) :: (Y.pn ++ ip1))) σ7 H7 s7' → (∃ F', W m σ7 H7 F' ∧ Same G2 F' ∧ Same F' H7) → ∃ m', m' < m + 1 ∧ ∃ σ' H' F' ip oL Hg Gg, Inv X pins σ' H' s7 ∧ W m' σ' H' F' ∧ 1 ≤ m' ∧ Slp N Y Fi Z Qe X.A.in1 g m' ip oL Hg Gg s7 ∧ s7.heap.IsGen a g ∧ Prv Y ip oL H' s7 ∧ Same Gg F' ∧ Same F' H' := fun {σ7 H7} I7' n7 => by
      have I7 := sim_inv S7 I6.bare I7'
      obtain ⟨F7, n7, n8, n9⟩ := n7
      have pin : ∀ p ∈ (Y.env.locals, oL1) :: (Y.pn ++ ip1), s7.heap.get? p.1 = some p.2 ∧ H7 p.1 = none := fun p hp => by
        obtain ⟨q1, q2, _⟩ := I7.pin p (List.mem_append_right _ (List.mem_append_right _ hp))
        exact ⟨q1, q2⟩
      obtain ⟨gs, σg, sb, Hb, sg, e1, e2, e3, e4, e5⟩ := sl4
      rw [hy] at e1
      cases e1
      refine ⟨m, by omega, σ7, H7, F7, ip1, oL1, H2, G2, inv_unpin I7, n7, hm, ⟨y, σg, sb, Hb, sg, hy7, e2, e3, e4, e5⟩, ?_, fun p hp => ⟨(pin p hp).1, (pin p hp).2, (P4 p hp).2.2⟩, n8, n9⟩
      obtain ⟨gob, epn⟩ := O.pn
      have ga := (P4 (a, gob) (List.mem_cons_of_mem _ (by rw [epn]; simp))).1
      rw [ho] at ga
      cases ga
      exact ⟨gob, nm, qn, (pin (a, gob) (List.mem_cons_of_mem _ (by rw [epn]; simp))).1, hcl, hdt, hsl⟩
    cases f with
    | next => obtain ⟨σ7, H7, I7, n7⟩ := q7; exact again I7 n7
    | cont => obtain ⟨σ7, H7, I7, n7⟩ := q7; exact again I7 n7
    | brk => obtain ⟨σ7, H7, I7, q7⟩ := q7; exact ⟨σ7, H7, inv_unpin (sim_inv S7 I6.bare I7), q7⟩
    | ret v => obtain ⟨x7, σ7, H7, I7, r7, q7⟩ := q7; exact ⟨x7, σ7, H7, inv_unpin (sim_inv S7 I6.bare I7), r7, q7⟩
  · exact wpAny_execs_nil ⟨σ1, H2, I4, fin n k σ1 H₀ F₀ H2 hk w4 le q⟩
end PT

/-! G6: a generator def, called. -/
namespace PT
open PySem PySem.Spec PyProof.Rows L2 GenW
/-- the context of a generator's body that lets no exception out -/
abbrev gX (P : Program) (w : World) (K : PySem.W.Frag) (mg : Str → Option Value) (base : Heap) (N : List Str) (qual : Str) (scope : Scope) (f : Addr) (cd : Value) (A : Around) (outer : List PySem.Env) (s : Shared) (H : Hp) (pn : List (Addr × Obj)) : Cx :=
  (L2.gcxOf P w K mg base N qual scope f cd A outer s H (fun _ _ _ => False) pn).nox
theorem cells_none : ∀ {names : List (Str × NameKind)} {n : Nat} {acc : List (Str × Addr)}, (∀ y ∈ names, y.2 ≠ .cell) → cellsFrom n names acc = acc
  | [], _, _, _ => rfl
  | (x, k) :: r, n, acc, h => by
    have hk : (k == NameKind.cell) = false := by
      have := h (x, k) List.mem_cons_self
      cases k <;> first | rfl | exact absurd rfl this
    show (if (k == NameKind.cell) = true then _ else cellsFrom n r acc) = acc
    rw [hk]
    exact cells_none fun y hy => h y (List.mem_cons_of_mem _ hy)
/-- what a generator def promises: N (more than) its hand-outs, what is told of each, what at the end -/
abbrev SpGn := List V → Hp → (Nat → GZ → (Nat → Hp → Prop) → Hp → Prop) → Prop
/-- a generator that was made for a consumer at outer, s -/
def GMd (P : Program) (w : World) (base : Heap) (k : Nat) (outer : List PySem.Env) (s : Shared) (H : Hp) (N : Nat) (Z : GZ) (Qe : Nat → Hp → Prop) (G : Hp) (a : Addr) (s' : Shared) : Prop :=
  ∃ g, s'.os = s.os ∧ AllBare s'.gens ∧ (∀ b o, s.heap.get? b = some o → s'.heap.get? b = some o) ∧ s'.heap.IsGen a g ∧
    ∀ Aw, Room k Aw → Aw.frames = some outer → ∃ X oL, X.prog = P ∧ X.w = w ∧ X.base = base ∧ X.outer = outer ∧ X.ex = [] ∧ X.env.locals = s.heap.objs.size ∧ (∀ x, X.env.cells.lookup x = none) ∧ (∃ go, X.pn = [(a, go)]) ∧
      Prv X [] oL H s' ∧ ∀ Fi, Slp N X Fi Z Qe Aw g N [] oL H G s'
structure GFk (P : Program) (w : World) (K : PySem.W.Frag) (mg : Str → Option Value) (base : Heap) (k : Nat) (f : Addr) (fd : FuncData) (ps : List Str) (sp : SpGn) : Prop where
  len : ∀ vs H R, sp vs H R → vs.length = ps.length
  run : ∀ (A : Around) (outer : List PySem.Env) (s : Shared) (H : Hp) (args : Args) (us : List Value) (vs : List V) (R : Nat → GZ → (Nat → Hp → Prop) → Hp → Prop), Room k A → Env0 P w K mg base A outer s H → BindsTo s fd args (ps.zip us) → Vals vs us → sp vs H R →
    codeAny (model P w) A (.call (.ref f) args) (fun r s' => match r with | .ok (.ret u) => ∃ a N Z Qe G, u = .ref a ∧ R N Z Qe G ∧ GMd P w base k outer s H N Z Qe G a s' | _ => False) s
theorem gfk_of {P : Program} {w : World} {K : PySem.W.Frag} {mg : Str → Option Value} {base : Heap} {k : Nat} {f : Addr} {name qual : Str} {params : Arguments} {body : List Stmt} {scope : Scope} {dV kV doc pm cdv ct oc : Value} {an od : Option Addr}
    {osl : Array (Option Value)} {Nm ps : List Str} {sp : SpGn} (lk : K.lookup f = some ⟨oc, od, .func (PySem.W.fnOf name qual params body scope dV kV doc pm an cdv ct), osl⟩) (hcd : PySem.W.codeIn K cdv qual = true) (S : GScope Nm ps scope) (hce : ∀ y ∈ scope.names, y.2 ≠ .cell)
    (len : ∀ vs H R, sp vs H R → vs.length = ps.length)
    (hbody : ∀ (s : Shared) (H : Hp) (vs : List V) (R : Nat → GZ → (Nat → Hp → Prop) → Hp → Prop), sp vs H R → ∃ N Z Qe G, R N Z Qe G ∧ ∃ t : TGn, (∀ (A : Around) (outer : List PySem.Env) (pn : List (Addr × Obj)) (Fi : GFi), Room k (A.deeper (envOfC qual scope s.heap.objs.size f cdv)) → GSs N (gX P w K mg base Nm qual scope f cdv A outer s H pn) Fi Z body t) ∧
      ∀ H2 F2, Same G F2 → Same F2 H2 → t { nx := fun k B _ _ H' => Qe k H' ∧ Same B H', rt := fun k B _ v H' => v = .non ∧ Qe k H' ∧ Same B H' } 0 H2 F2 (start Nm vs) H2) :
    GFk P w K mg base (k + 1) f (PySem.W.fnOf name qual params body scope dV kV doc pm an cdv ct) ps sp := by
  refine ⟨len, fun A outer s H args us vs R hr e0 hb r hsp => ?_⟩
  have hl := len _ _ _ hsp
  have KX : K.In s.heap := e0.mod.kin.keeps fun b o e => (e0.bs b o e).1
  have lim : s.heap.NoLimit := e0.mod.nolimit.keeps fun b o e => (e0.bs b o e).1
  have hkind : ∀ y ∈ ps.zip us, scope.names.lookup y.1 = some .local ∨ (scope.names.lookup y.1 = some .cell ∧ ((cellsFrom (s.heap.objs.size + 1) scope.names []).lookup y.1).isSome = true) := fun ⟨n, v⟩ hy => by
    rcases S.par n (List.of_mem_zip hy).1 with q | q
    · exact .inl q
    · exact .inr ⟨q, PySem.W.cellsFrom_some _ _ _ (.inl q)⟩
  refine codeAny_call_generator hr.depth (KX _ _ lk) rfl S.co S.gen rfl (PySem.W.codeRec_of KX hcd) (hb _ _ _ _ ?_)
  refine wpAny_newFunctionEnv_cells S.kind hkind fun env he s1 x => ?_
  subst he
  have lim1 : s1.heap.NoLimit := lim.keeps x.toInCall.keep
  refine ⟨lim1, ?_⟩
  obtain ⟨h1, tk, es1, hk1⟩ := x.done
  have os1 : s1.os = s.os := by rw [es1]
  have gen1 : s1.gens = s.gens := by rw [es1]
  have lt1 : s.heap.objs.size < s1.heap.objs.size := x.toInCall.ns.lt
  have kp1 : ∀ b o, s.heap.get? b = some o → s1.heap.get? b = some o := x.toInCall.keep
  have main : ∀ (go : Obj) (nm qn : Value) (tk2 : Nat), go.cls = .type "generator" → go.data = .fields #[.int s1.gens.size 0, nm, qn] → go.slots = #[] → (∀ h : Heap, (h.push go).get? h.objs.size = some go) →
      ∃ a N Z Qe G, Value.ref s1.heap.objs.size = .ref a ∧ R N Z Qe G ∧ GMd P w base (k + 1) outer s H N Z Qe G a { s1 with gens := s1.gens.push (.fresh (.func body (envOfC qual scope s.heap.objs.size f cdv))), toks := tk2, heap := s1.heap.push go } := by
    intro go nm qn tk2 hgc hgd0 hgs hgp
    have hpushed : (s1.heap.push go).get? s1.heap.objs.size = some go := hgp _
    have hgd : ∀ v, go.data ≠ .cell v := fun v q => by rw [hgd0] at q; cases q
    obtain ⟨N, Z, Qe, G, hR, t, ht, hq⟩ := hbody s H vs R hsp
    have kp2 : ∀ b o, s1.heap.get? b = some o → (s1.heap.push go).get? b = some o := fun b o e => Heap.get?_push_of_some _ e
    have ab : AllBare (s1.gens.push (.fresh (.func body (envOfC qual scope s.heap.objs.size f cdv)))) := AllBare.push (by rw [gen1]; exact e0.bare) rfl
    refine ⟨s1.heap.objs.size, N, Z, Qe, G, rfl, hR, s1.gens.size, os1, ab, fun b o e => kp2 b o (kp1 b o e), ⟨go, nm, qn, hpushed, hgc, hgd0, hgs⟩, fun Aw hrw hfr => ?_⟩
    have e0w : Env0 P w K mg base Aw outer s H := ⟨hfr, e0.mod, e0.bs, e0.bsz, e0.funs, e0.frf, e0.hok, e0.bare⟩
    have I1 : Inv (L2.gcxOf P w K mg base Nm qual scope f cdv Aw outer s H (fun _ _ _ => False) []) [] (start Nm vs) H s1 := inv_startG S hrw.hd e0w hl r x
    have I2 : Inv (L2.gcxOf P w K mg base Nm qual scope f cdv Aw outer s H (fun _ _ _ => False) []) [] (start Nm vs) H { s1 with gens := s1.gens.push (.fresh (.func body (envOfC qual scope s.heap.objs.size f cdv))), toks := tk2, heap := s1.heap.push go } :=
      I1.call' (ch := []) rfl (Un.kept kp2) (I1.hok.kept kp2) ab fun b z => by cases z
    have nf : s1.heap.objs.size ∉ frs outer := I1.nofs (Nat.le_refl _)
    have I3 : Inv (gX P w K mg base Nm qual scope f cdv Aw outer s H [(s1.heap.objs.size, go)]) [] (start Nm vs) H { s1 with gens := s1.gens.push (.fresh (.func body (envOfC qual scope s.heap.objs.size f cdv))), toks := tk2, heap := s1.heap.push go } := by
      refine Inv.wish (Inv.pinnedG I2 fun p hp => ?_) _
      rw [List.append_nil] at hp
      rw [List.mem_singleton.mp hp]
      exact ⟨hpushed, I1.hok.fresh (Nat.le_refl _), Nat.ne_of_gt lt1, nf, hgd⟩
    obtain ⟨mm, ⟨oL, es, ep, hL1, hL2, _⟩, _⟩ := id I3.loc
    refine ⟨gX P w K mg base Nm qual scope f cdv Aw outer s H [(s1.heap.objs.size, go)], oL, rfl, rfl, rfl, rfl, rfl, rfl, fun y => ?_, ⟨go, rfl⟩, fun p hp => ?_, fun Fi => ?_⟩
    · show (cellsFrom (s.heap.objs.size + 1) scope.names []).lookup y = none
      rw [cells_none hce]
      rfl
    · rcases List.mem_cons.mp hp with e | hp
      · rw [e]
        refine ⟨hL1, I3.free, fun m => ?_, fun v z => ?_⟩
        · obtain ⟨_, o', e', _⟩ := e0.funs.mem (show s.heap.objs.size ∈ frs outer from m)
          exact absurd (Heap.lt_size e') (Nat.lt_irrefl _)
        · have z : oL.data = .cell v := z
          rw [hL2] at z
          cases z
      · obtain ⟨q1, q2, _, q4, q5⟩ := I3.pin p hp
        exact ⟨q1, q2, q4, q5⟩
    · refine ⟨_, start Nm vs, s, H, _, Array.getElem?_push_size .., rfl, I3, hL1, fun s2 H2 F2 l2 l3 hf K2 => ⟨rfl, ?_⟩⟩
      refine seg_func ?_
      refine (ht Aw outer [(s1.heap.objs.size, go)] Fi (hrw.deeper _)).run Aw [] _ N 0 s2 H2 F2 _ [] _ _ id id s2 (start Nm vs) H2 _ ⟨over_func, rfl, rfl, rfl⟩ (Nat.add_zero _) ⟨fun n kk s₀ s' H₀ F₀ fl hn hf' hs => ?_⟩ hf K2 (hq H2 F2 l2 l3)
      cases fl with
      | next =>
        obtain ⟨σ', H', hI, q1, q2⟩ := hs
        exact seg_end (.ok (.ret .none)) (.inl ⟨.inl rfl, kk, [], σ', H', H₀, F₀, hn, hf', hI, q1, q2⟩)
      | brk => obtain ⟨_, _, _, q⟩ := hs; exact False.elim q
      | cont => obtain ⟨_, _, _, q⟩ := hs; exact False.elim q
      | ret u =>
        obtain ⟨v, σ', H', hI, rv, ev, q1, q2⟩ := hs
        subst ev
        have eu : u = Value.none := rv
        subst eu
        exact seg_end (.ok (.ret .none)) (.inl ⟨.inl rfl, kk, [], σ', H', H₀, F₀, hn, hf', hI, q1, q2⟩)
  exact main _ _ _ _ rfl rfl rfl fun h => Heap.get?_push_size _ rfl
end PT

/-! G7: the expression g(e, ..) at the head of a for. -/
namespace PT
open PySem PySem.Spec PyProof.Rows L2 GenW
section
variable {X : Cx} {k : Nat} {f : Addr} {fd : FuncData} {ps : List Str} {sp : SpGn}
theorem made_of {pins : List (Addr × Obj)} {σ : L2.St} {H : Hp} {s s' : Shared} {N : Nat} {Z : GZ} {Qe : Nat → Hp → Prop} {G : Hp} {a : Addr} (hs : X.stack = X.env :: X.outer) (hf : X.env.frame = some X.env.locals) (hr : Room (k + 1) X.A) (I : Inv X pins σ H s)
    (h : GMd X.prog X.w X.base k X.stack s H N Z Qe G a s') : ∃ g, Inv X pins σ H s' ∧ MadeG X pins N Z Qe H G a g s' := by
  obtain ⟨g, os, ab, kp, gen, mk⟩ := h
  obtain ⟨Y, oL, h1, h2, h3, h4, h5, h6, h7, h8, h9, h10⟩ := mk X.A.in1 hr.in1 I.ok.frames
  have J : Inv X pins σ H s' := I.call' (ch := []) os (Un.kept kp) (I.hok.kept kp) ab fun b z => by cases z
  have fr : ∀ b ∈ frs X.stack, (b : Nat) < s.heap.objs.size := fun b hb => by
    obtain ⟨_, o, e, _⟩ := I.stack.mem hb
    exact Heap.lt_size e
  refine ⟨g, J, gen, Y, s.heap.objs.size, oL, ⟨h1, h2, h3, h4, h5, h6, h7, rfl, fr, h8, I.sz, I.lt, fun x c e => ?_, ?_, fun b hb => ?_⟩, fun p hp => Heap.lt_size (I.pin p hp).1, h9, h10⟩
  · obtain ⟨v, q⟩ := I.cell x c e
    exact q.lt
  · rw [hs]
    exact List.mem_filterMap.mpr ⟨X.env, List.mem_cons_self, hf⟩
  · rw [hs]
    obtain ⟨e, he, q⟩ := List.mem_filterMap.mp hb
    exact List.mem_filterMap.mpr ⟨e, List.mem_cons_of_mem _ he, q⟩
def tGm (sp : SpGn) (t : L2.TA) : TGm := fun σ H R => t σ H fun vs H1 => sp vs H1 fun N Z Qe G => R N Z Qe G H1
theorem pgm_call {x : Str} {e : Expr} {es : List Expr} {p pos : Pos} {t : L2.TA} (hs : X.stack = X.env :: X.outer) (hf : X.env.frame = some X.env.locals) (F : GFk X.prog X.w X.K X.mg X.base k f fd ps sp) (hr : Room (k + 1) X.A) (hg : Gl X x) (hm : X.mg x = some (.ref f)) (hk : PySem.W.keepIn X.K (.ref f) = true)
    (hb : Binds X.K fd ps []) (ha : PA X (e :: es) t) (hdb : (x == ("__debug__" : Str)) = false) (he : starEach (e :: es) X.env = (false, eval e X.env) :: starEach es X.env) (hpl : (backTo pos (starEach es X.env)).any (·.1) = false) : PGm X (.Call (.Name x p) (e :: es) [] pos) (tGm sp t) := by
  refine ⟨fun pins s σ H R I h => ?_⟩
  refine wpAny_Call_Name_kw (ld_glob I hg hm ?_ hdb)
  refine PySem.W.callWith_K (h₀ := X.base) I.ok.mod.kin hk (thn (ha.run pos pins s σ H _ I h) fun us s1 ⟨vs, H1, I1, r, q⟩ => ⟨I1.kIn, ?_⟩) he hpl
  have hl : us.length = ps.length := by rw [← r.length]; exact F.len _ _ _ q
  have b := hb s1 us I1.kIn (by rw [List.append_nil]; exact hl)
  rw [List.append_nil] at b
  refine wpAny_call (codeAny_mono (F.run X.A X.stack s1 H1 ⟨us, []⟩ us vs _ (hr.mono (by omega)) I1.env0 b r q) fun r s' hq => ?_)
  cases r with
  | error e => exact hq.elim
  | ok fl =>
    cases fl with
    | ret u =>
      obtain ⟨a, N, Z, Qe, G, rfl, hR, hG⟩ := hq
      obtain ⟨g, J, M⟩ := made_of hs hf hr I1 hG
      exact ⟨a, g, N, Z, Qe, G, H1, rfl, J, hR, M⟩
    | next => exact hq.elim
    | brk => exact hq.elim
    | cont => exact hq.elim
end
end PT

namespace PT
open PySem PySem.Spec PyProof.Rows L2

/-- not starred; not a slice -/
def nst : Expr → Bool
  | .Starred .. => false
  | _ => true
def nsl : Expr → Bool
  | .Slice .. => false
  | _ => true
/-- what a def of the table promises: from frozen trees to a tree, one's own down to rd -/
def spOf (K : PySem.W.Frag) (G : List T → (T → Prop) → Prop) (rd : Nat) : Sp := fun vs H Q _ => ∃ (H0 : Hp) (ts : List T) (Qt : T → Prop), Same H0 H ∧ Reps K H0 ts vs ∧ G ts Qt ∧
  ∀ t v H0' H' f, Qt t → Ext H0 H H0' H' → Own K H0' H' rd t v f → f.Nodup → (∀ a ∈ f, H a = none ∧ H0' a = none) → Q v H'

/-- the arguments of a def to which the p-th is given away -/
def ArgsO (K : PySem.W.Frag) (H0 H : Hp) (p dp : Nat) (F : List Addr) (ts : List T) (vs : List V) : Prop := ts.length = vs.length ∧ ∀ i t v, ts[i]? = some t → vs[i]? = some v → if i = p then Own K H0 H dp t v F else Rep K H0 t v
def spOw (K : PySem.W.Frag) (G : List T → (T → Prop) → Prop) (rd p dp : Nat) : Sp := fun vs H Q _ => ∃ (H0 He : Hp) (ts : List T) (Qt : T → Prop) (F : List Addr), Same He H ∧ Same H0 He ∧ ArgsO K H0 H p dp F ts vs ∧ p < ts.length ∧ F.Nodup ∧ (∀ a ∈ F, He a = none) ∧ G ts Qt ∧
  ∀ t v H0' H' f, Qt t → Ext H0 He H0' H' → Own K H0' H' rd t v f → f.Nodup → (∀ a ∈ f, He a = none ∧ H0' a = none) → Q v H'
/-- an __init__'s promise: at a new instance without fields -/
def spI (K : PySem.W.Frag) (D : Str) (G : List T → (T → Prop) → Prop) : Sp := fun vs H Q _ => ∃ (a dx : Addr) (r : List V) (H0 He : Hp) (ts : List T) (Qt : T → Prop), vs = .ref a :: r ∧ H a = some (.ins (gaC K D) dx []) ∧ (∀ b, b ≠ a → He b = H b) ∧ He a = none ∧ Same H0 He ∧ Reps K H0 ts r ∧ ClsOk K D [] ∧ G ts Qt ∧
  ∀ ns us vs' dx' H0' H', Qt (.ins D ns us) → Ext H0 He H0' H' → H' a = some (.ins (gaC K D) dx' (ns.zip vs')) → H0' a = none → ns.length = vs'.length → ClsOk K D ns → Reps K H0' us vs' → Q .non H'
/-- what is told of a generator's k-th value: it is zs's -/
def gz (K : PySem.W.Frag) (zs : List T) : GZ := fun k x F B G H => Ext F B G H ∧ ∃ t, zs[k]? = some t ∧ Rep K G t x
/-- what a generator def of the table promises: from frozen trees to all that it hands out, frozen -/
def spGn (K : PySem.W.Frag) (Gm : List T → (T → Prop) → Prop) : SpGn := fun vs H R => ∃ (H0 : Hp) (ts : List T) (Qt : T → Prop), Same H0 H ∧ Reps K H0 ts vs ∧ Gm ts Qt ∧ ∀ zs, Qt (.lst zs) → R (zs.length + 2) (gz K zs) (fun k _ => k = zs.length) H0
/-- names that stand for what is built in -/
def bltN : List Str := ["len", "abs", "max", "min", "sum", "int", "tuple", "list", "all", "any", "range", "zip", "isinstance", "bool", "str"]
/-- a shape of a call with keywords: the function, the number of positional values, the names, and where each parameter's value stands -/
structure Kws where
  f : Nat
  n : Nat
  ks : List Str
  ord : List Nat
structure Cfg where
  tbl : List Def
  gcd : Bool
  kws : List Kws
  /-- the own classes and their fields -/
  cls : List (Str × List Str) := []
def pickL {α : Type} (z : α) (xs : List α) (ord : List Nat) : List α := ord.map fun k => xs.getD k z
structure Good (c : Cfg) (n : Nat) (C : CXT) (X : Cx) (N : List Str) (sc : Scope) : Prop where
  hN : X.N = N
  nd : N.Nodup
  calm : X.calm = true
  look : ∀ x k, sc.names.lookup x = some k → X.env.scope.names.lookup x = some k ∨ (k = .free ∧ X.env.scope.names.lookup x = some .cell)
  fnc : ∀ x, sc.names.lookup x = some .cell → X.fn x = true
  room : Room (2 * n + 1) X.A
  blt : ∀ x ∈ bltN, X.mg x = none
  gcd : c.gcd = true → X.mg "gcd" = some (.builtin "math.gcd")
  fns : ∀ f d, c.tbl[f]? = some d → d.ini = none → d.isG = false → d.own = none → ∃ a fd, X.mg d.name = some (.ref a) ∧ PySem.W.keepIn X.K (.ref a) = true ∧ FnOk X.prog X.w X.K X.mg X.base C (2 * n) a fd d.ps (spOf X.K (gam c.tbl n f) d.rd) ∧
    (∀ us : List Value, us.length = d.ps.length → bindArgs fd ⟨us, []⟩ = pure (d.ps.zip us)) ∧
    (∀ q ∈ c.kws, q.f = f → ∀ us ws : List Value, us.length = q.n → ws.length = q.ks.length → bindArgs fd ⟨us, q.ks.zip ws⟩ = pure (d.ps.zip (pickL Value.none (us ++ ws) q.ord)))
  ows : ∀ f d p dp, c.tbl[f]? = some d → d.ini = none → d.isG = false → d.own = some (p, dp) → ∃ a fd, X.mg d.name = some (.ref a) ∧ PySem.W.keepIn X.K (.ref a) = true ∧ FnOk X.prog X.w X.K X.mg X.base C (2 * n) a fd d.ps (spOw X.K (gam c.tbl n f) d.rd p dp) ∧
    (∀ us : List Value, us.length = d.ps.length → bindArgs fd ⟨us, []⟩ = pure (d.ps.zip us))
  gens : ∀ f d, c.tbl[f]? = some d → d.ini = none → d.isG = true → ∃ a fd, X.mg d.name = some (.ref a) ∧ PySem.W.keepIn X.K (.ref a) = true ∧ GFk X.prog X.w X.K X.mg X.base (2 * n) a fd d.ps (spGn X.K (gam c.tbl n f)) ∧
    (∀ us : List Value, us.length = d.ps.length → bindArgs fd ⟨us, []⟩ = pure (d.ps.zip us)) ∧
    (∀ q ∈ c.kws, q.f = f → ∀ us ws : List Value, us.length = q.n → ws.length = q.ks.length → bindArgs fd ⟨us, q.ks.zip ws⟩ = pure (d.ps.zip (pickL Value.none (us ++ ws) q.ord)))
  inis : ∀ f d D, c.tbl[f]? = some d → d.ini = some D → ∃ a fd s, X.mg d.name = some (.ref (gaC X.K D)) ∧ Mk X.K (gaC X.K D) a ∧ FnOk X.prog X.w X.K X.mg X.base C (2 * n) a fd (s :: d.ps) (spI X.K D (gam c.tbl n f)) ∧
    (∀ us : List Value, us.length = d.ps.length + 1 → bindArgs fd ⟨us, []⟩ = pure ((s :: d.ps).zip us)) ∧
    (∀ q ∈ c.kws, q.f = f → ∀ us ws : List Value, us.length = q.n + 1 → ws.length = q.ks.length → bindArgs fd ⟨us, q.ks.zip ws⟩ = pure ((s :: d.ps).zip (us.take 1 ++ pickL Value.none (us.drop 1 ++ ws) q.ord)))
  cls : ∀ p ∈ c.cls, X.mg p.1 = some (.ref (gaC X.K p.1)) ∧ ClsOk X.K p.1 p.2 ∧ ∀ q ∈ c.cls, PySem.W.kitOne X.K (.ref (gaC X.K q.1)) (.ref (gaC X.K p.1)) = some (decide (q.1 = p.1))
  clb : ∀ p ∈ c.cls, ∀ t ∈ ["NoneType", "bool", "int", "str", "list", "tuple"], PySem.W.kitOne X.K (.type t) (.ref (gaC X.K p.1)) = some false
  pass : ∀ Y : Cx, Y.prog = X.prog → Y.w = X.w → Passes C Y E0
section
variable {c : Cfg} {n : Nat} {C : CXT} {X : Cx} {N : List Str} {sc : Scope}
theorem Good.vis (G : Good c n C X N sc) {x : Str} (h : sc.names.lookup x = some .local ∨ sc.names.lookup x = some .cell ∨ sc.names.lookup x = some .free) : Vis X.env.scope x := by
  rcases h with h | h | h
  · rcases G.look x _ h with e | ⟨e, _⟩
    · exact .inl e
    · cases e
  · rcases G.look x _ h with e | ⟨e, _⟩
    · exact .inr (.inl e)
    · cases e
  · rcases G.look x _ h with e | ⟨_, e⟩
    · exact .inr (.inr e)
    · exact .inr (.inl e)
theorem Good.gl (G : Good c n C X N sc) {x : Str} (h : sc.names.lookup x = some .globalImplicit) : Gl X x := by
  rcases G.look x _ h with e | ⟨e, _⟩
  · exact e
  · cases e
theorem Good.loc (G : Good c n C X N sc) {x : Str} (h : sc.names.lookup x = some .local ∨ sc.names.lookup x = some .cell) : Loc X.env.scope x ∧ (X.fn x = true ∨ X.env.scope.names.lookup x = some .local) := by
  rcases h with h | h
  · rcases G.look x _ h with e | ⟨e, _⟩
    · exact ⟨.inl e, .inr e⟩
    · cases e
  · rcases G.look x _ h with e | ⟨e, _⟩
    · exact ⟨.inr e, .inl (G.fnc x h)⟩
    · cases e

/-! ### readings -/
section
variable (Γ : Gam) (rd : Nat → Nat) (K : PySem.W.Frag)
def trE (e : TE) : L2.TE := fun σ H Q => ∃ pn He H0e H0 env fps, StR K pn He H0e H0 H σ env fps ∧ wpE Γ rd e env fun t o => ∀ H0' H' v, Ext H0 H H0' H' → VR K He H H0' H' o t v → Q v H'
/-- one argument after another, each new one's own apart from the next -/
def VRs (He H0' H' : Hp) : Hp → List (T × Og) → List V → Prop
  | _, [], vs => vs = []
  | H, (t, o) :: l, vs => ∃ v r Hm, vs = v :: r ∧ Same H Hm ∧ Same Hm H' ∧ (∃ f, (match o with
      | .bor d => Own K H0' H' d t v f ∧ ∀ a ∈ f, He a = none
      | .fr d => Own K H0' H' d t v f ∧ f.Nodup ∧ ∀ a ∈ f, (H a = none ∧ H0' a = none) ∧ ∃ u, Hm a = some u)) ∧ VRs He H0' H' Hm l r
def trA (es : TEs) : L2.TA := fun σ H Q => ∃ pn He H0e H0 env fps, StR K pn He H0e H0 H σ env fps ∧ wpEs Γ rd es env fun l => ∀ H0' H' vs, Ext H0 H H0' H' → VRs K He H0' H' H l vs → Q vs H'
end
section
variable {Γ : Gam} {rd : Nat → Nat} {K : PySem.W.Frag} {He H0e H0 H H0' H' H0'' H'' : Hp} {σ : L2.St} {env : Env} {fps : Nat → List Addr} {t : T} {v : V} {o : Og}
theorem trE_of (M : Γ.Mono) {e : TE} {k : T → Og → Prop} {Q : VK} (S : StR K pn He H0e H0 H σ env fps) (h : wpE Γ rd e env k) (hk : ∀ t o H0' H' v, Ext H0 H H0' H' → VR K He H H0' H' o t v → k t o → Q v H') : trE Γ rd K e σ H Q :=
  ⟨pn, He, H0e, H0, env, fps, S, wpE_mono M e env _ _ (fun t o q H0' H' v x r => hk t o H0' H' v x r q) h⟩
theorem trA_of (M : Γ.Mono) {es : TEs} {k : List (T × Og) → Prop} {Q : List V → Hp → Prop} (S : StR K pn He H0e H0 H σ env fps) (h : wpEs Γ rd es env k) (hk : ∀ l H0' H' vs, Ext H0 H H0' H' → VRs K He H0' H' H l vs → k l → Q vs H') : trA Γ rd K es σ H Q :=
  ⟨pn, He, H0e, H0, env, fps, S, wpEs_mono M es env _ _ (fun l q H0' H' vs x r => hk l H0' H' vs x r q) h⟩
theorem VRs.ext : ∀ {l : List (T × Og)} {vs : List V} {H : Hp}, VRs K He H0' H' H l vs → Ext H0' H' H0'' H'' → VRs K He H0'' H'' H l vs
  | [], _, _, r, _ => r
  | (t, o) :: l, vs, H, r, x => by
    obtain ⟨v, r, Hm, e1, e2, e3, ⟨f, e4⟩, e5⟩ := r
    refine ⟨v, r, Hm, e1, e2, e3.trans x.s, ⟨f, ?_⟩, e5.ext x⟩
    cases o with
    | bor d => exact ⟨e4.1.ext x, e4.2⟩
    | fr d => exact ⟨e4.1.ext x, e4.2.1, fun a ha => ⟨⟨(e4.2.2 a ha).1.1, by
        obtain ⟨u, e⟩ := (e4.2.2 a ha).2
        exact (x.nw a _ (e3 a _ e)).trans (e4.2.2 a ha).1.2⟩, (e4.2.2 a ha).2⟩⟩
theorem VR.first (r : VR K He H H0' H' o t v) : ∃ f, (match o with
      | .bor d => Own K H0' H' d t v f ∧ ∀ a ∈ f, He a = none
      | .fr d => Own K H0' H' d t v f ∧ f.Nodup ∧ ∀ a ∈ f, (H a = none ∧ H0' a = none) ∧ ∃ u, H' a = some u) := by
  cases o with
  | bor d => exact r
  | fr d =>
    obtain ⟨f, a, b, c⟩ := r
    exact ⟨f, a, b, fun y hy => ⟨c y hy, by
      obtain ⟨xs, e⟩ := own_in d t v f a y hy
      exact ⟨_, e⟩⟩⟩
/-- one of them by itself -/
theorem VRs.head {l : List (T × Og)} {vs : List V} (r : VRs K He H0' H' H ((t, o) :: l) vs) : ∃ v r, vs = v :: r ∧ VR K He H H0' H' o t v ∧ ∃ Hm, Same H Hm ∧ VRs K He H0' H' Hm l r := by
  obtain ⟨v, r, Hm, e1, e2, e3, ⟨f, e4⟩, e5⟩ := r
  refine ⟨v, r, e1, ?_, Hm, e2, e5⟩
  cases o with
  | bor d => exact ⟨f, e4⟩
  | fr d => exact ⟨f, e4.1, e4.2.1, fun a ha => (e4.2.2 a ha).1⟩
theorem own0_rep {t : T} {v : V} {f : List Addr} (h : Own K H0' H' 0 t v f) : Rep K H0' t v := h.2
theorem VRs.taken0 : ∀ {l : List (T × Og)} {vs : List V} {Hb : Hp} {Q : List T → Prop}, VRs K He H0' H' Hb l vs → taksF l Q → ∃ ts : List T, Q ts ∧ ts.length = vs.length ∧ ∀ (i : Nat) (t : T) (v : V), ts[i]? = some t → vs[i]? = some v → Rep K H0' t v
  | [], vs, Hb, Q, r, q => by
    cases (show vs = [] from r)
    exact ⟨[], q, rfl, fun i t v e => by cases e⟩
  | (t, o) :: l, vs, Hb, Q, r, q => by
    obtain ⟨v, r, e, r1, Hm, sm, r2⟩ := r.head
    subst e
    cases o with
    | fr d => exact q.elim
    | bor d =>
      cases d with
      | succ d => exact q.elim
      | zero =>
        obtain ⟨ts, q1, q2, q3⟩ := VRs.taken0 r2 (show taksF l _ from q)
        refine ⟨t :: ts, q1, by rw [List.length_cons, List.length_cons, q2], fun i t' v' e e' => ?_⟩
        cases i with
        | zero =>
          cases e; cases e'
          obtain ⟨f, a, _⟩ := r1
          exact a.2
        | succ i => exact q3 i t' v' e e'
theorem VRs.takenO {dp : Nat} (x : Ext H0 H H0' H') : ∀ {p : Nat} {l : List (T × Og)} {vs : List V} {Hb : Hp} {Q : List T → Prop}, Same H Hb → VRs K He H0' H' Hb l vs → taksO dp p l Q → ∃ ts F, Q ts ∧ ArgsO K H0' H' p dp F ts vs ∧ p < ts.length ∧ F.Nodup ∧ ∀ a ∈ F, H a = none ∧ H0' a = none
  | p, [], vs, Hb, Q, s, r, q => by cases p <;> exact q.elim
  | 0, (t, o) :: l, vs, Hb, Q, s, r, q => by
    obtain ⟨v, r, e, r1, Hm, sm, r2⟩ := r.head
    subst e
    cases o with
    | bor d => exact q.elim
    | fr d =>
      obtain ⟨rfl, q⟩ := q
      obtain ⟨ts, q1, q2, q3⟩ := VRs.taken0 r2 q
      obtain ⟨f, a, nd, b⟩ := r1
      refine ⟨t :: ts, f, q1, ⟨by rw [List.length_cons, List.length_cons, q2], fun i t' v' e e' => ?_⟩, Nat.succ_pos _, nd, fun y hy => ⟨s.free (b y hy).1, (b y hy).2⟩⟩
      cases i with
      | zero => cases e; cases e'; exact a
      | succ i => rw [if_neg (Nat.succ_ne_zero i)]; exact q3 i t' v' e e'
  | p + 1, (t, o) :: l, vs, Hb, Q, s, r, q => by
    obtain ⟨v, r, e, r1, Hm, sm, r2⟩ := r.head
    subst e
    cases o with
    | fr d => exact q.elim
    | bor d =>
      cases d with
      | succ d => exact q.elim
      | zero =>
        obtain ⟨ts, F, q1, ⟨q2, q3⟩, q4, q5, q6⟩ := VRs.takenO x (s.trans sm) r2 (show taksO dp p l _ from q)
        refine ⟨t :: ts, F, q1, ⟨by rw [List.length_cons, List.length_cons, q2], fun i t' v' e e' => ?_⟩, Nat.succ_lt_succ q4, q5, q6⟩
        cases i with
        | zero =>
          cases e; cases e'
          rw [if_neg (Nat.succ_ne_zero p).symm]
          obtain ⟨f, a, _⟩ := r1
          exact a.2
        | succ i =>
          have := q3 i t' v' e e'
          by_cases c : i = p
          · rw [if_pos c] at this; rw [if_pos (by omega)]; exact this
          · rw [if_neg c] at this; rw [if_neg (by omega)]; exact this
theorem VRs.taken (x : Ext H0 H H0' H') : ∀ {l : List (T × Og)} {vs : List V} {Hb : Hp} {Q : List T → Prop}, Same H Hb → VRs K He H0' H' Hb l vs → takes l Q → ∃ ts, Q ts ∧ Reps K (frzN H H0' H') ts vs
  | [], vs, Hb, Q, _, r, h => ⟨[], h, by
    have e : vs = [] := r
    subst e
    exact reps_nil⟩
  | (t, o) :: l, vs, Hb, Q, s, r, h => by
    obtain ⟨v, r, e, r1, Hm, sm, r2⟩ := r.head
    subst e
    obtain ⟨h2, q1⟩ := (r1.base s).taken x h
    obtain ⟨ts, q2, q3⟩ := VRs.taken x (s.trans sm) r2 h2
    exact ⟨t :: ts, q2, reps_cons q1 q3⟩
theorem VRs.reps (le : Same H0' H') : ∀ {l : List (T × Og)} {vs : List V} {Hb : Hp}, VRs K He H0' H' Hb l vs → Reps K H' (l.map (·.1)) vs
  | [], vs, Hb, r => by
    have e : vs = [] := r
    subst e
    exact reps_nil
  | (t, o) :: l, vs, Hb, r => by
    obtain ⟨v, r, e, r1, Hm, sm, r2⟩ := r.head
    subst e
    exact reps_cons (r1.here le) (VRs.reps le r2)
/-- stored in a new list at the depth d -/
theorem VRs.kept : ∀ {l : List (T × Og)} {vs : List V} {Hb : Hp} {d : Nat} {Q : List T → Prop}, VRs K He H0' H' Hb l vs → keeps (d + 1) l Q → ∃ ts f, Q ts ∧ Owns (Own K H0' H' (d + 1)) ts vs f ∧ f.Nodup ∧ ∀ a ∈ f, Hb a = none ∧ H0' a = none
  | [], vs, Hb, d, Q, r, h => ⟨[], [], h, ⟨r, rfl⟩, .nil, fun a ha => by cases ha⟩
  | (t, o) :: l, vs, Hb, d, Q, r, h => by
    obtain ⟨v, r, Hm, e1, e2, e3, ⟨f, e4⟩, e5⟩ := r
    have flat : t.isLst = false → (∃ f', Own K H0' H' (d + 1) t v f' ∧ f'.Nodup ∧ ∀ a ∈ f', (Hb a = none ∧ H0' a = none) ∧ ∃ u, Hm a = some u) := fun hf => by
      have q : Rep K H0' t v := by
        cases o with
        | bor e => exact (flat_own hf e4.1).2
        | fr e => exact (flat_own hf e4.1).2
      exact ⟨[], own_flat hf q, .nil, fun a ha => by cases ha⟩
    have main : (∃ f', Own K H0' H' (d + 1) t v f' ∧ f'.Nodup ∧ ∀ a ∈ f', (Hb a = none ∧ H0' a = none) ∧ ∃ u, Hm a = some u) ∧ keeps (d + 1) l fun ts => Q (t :: ts) := by
      cases o with
      | fr e =>
        cases t with
        | lst ts =>
          obtain ⟨e0, h2⟩ := h
          rcases e0 with e0 | ⟨e0, e0'⟩
          · subst e0
            exact ⟨⟨f, e4⟩, h2⟩
          · exact ⟨⟨f, own_flatL e0 e0' e4.1, e4.2⟩, h2⟩
        | _ => exact ⟨flat rfl, h⟩
      | bor e =>
        cases t with
        | lst ts => exact h.elim
        | _ => exact ⟨flat rfl, h⟩
    obtain ⟨⟨f', w1, w2, w3⟩, h2⟩ := main
    obtain ⟨ts, g, q1, q2, q3, q4⟩ := VRs.kept e5 h2
    refine ⟨t :: ts, f' ++ g, q1, ⟨v, r, f', g, e1, rfl, w1, q2⟩, List.nodup_append.mpr ⟨w2, q3, fun a ha b hb z => ?_⟩, fun a ha => ?_⟩
    · obtain ⟨u, e⟩ := (w3 a ha).2
      have := (q4 b hb).1
      rw [← z, e] at this
      cases this
    · rcases List.mem_append.mp ha with z | z
      · exact (w3 a z).1
      · exact ⟨e2.free (q4 a z).1, (q4 a z).2⟩
end
theorem PE.mono {X : Cx} {e : Expr} {t t' : L2.TE} (h : PE X e t) (k : ∀ σ H Q, t' σ H Q → t σ H Q) : PE X e t' := ⟨fun pins s σ H Q I q => h.run pins s σ H Q I (k σ H Q q)⟩
theorem PA.mono {X : Cx} {es : List Expr} {t t' : L2.TA} (h : PA X es t) (k : ∀ σ H Q, t' σ H Q → t σ H Q) : PA X es t' := ⟨fun pos pins s σ H Q I q => h.run pos pins s σ H Q I (k σ H Q q)⟩

/-! ### names, constants -/
section
variable {Γ : Gam} {rd : Nat → Nat} (M : Γ.Mono)
theorem var_of {pn : List (Nat × V)} {K : PySem.W.Frag} {He H0e H0 H : Hp} {σ : L2.St} {env : Env} {fps : Nat → List Addr} {i : Nat} {k : T → Og → Prop} (S : StR K pn He H0e H0 H σ env fps) (h : varT env i k) : ∃ v t o, σ[i]? = some (some v) ∧ VR K He H H0 H o t v ∧ k t o := by
  unfold varT at h
  have q := S.slot i
  split at h
  · rename_i t e
    rw [e] at q
    obtain ⟨_, v, e1, r⟩ := q
    exact ⟨v, t, .bor 0, e1, ⟨[], ⟨rfl, r⟩, fun a ha => by cases ha⟩, h⟩
  · rename_i d t e
    rw [e] at q
    obtain ⟨v, e1, r⟩ := q
    exact ⟨v, t, .bor d, e1, ⟨_, r, fun a ha => (S.out i a ha).2⟩, h⟩
  · rename_i d t e
    rw [e] at q
    obtain ⟨_, v, f, e1, r, n⟩ := q
    exact ⟨v, t, .bor d, e1, ⟨f, r, n⟩, h⟩
  · rename_i r p e
    rw [e] at q
    obtain ⟨_, v, vr, d, t, e1, e2, e3, nd, l, z⟩ := q
    rw [e3] at h
    obtain ⟨_, t', h1, h2⟩ := h
    have qr := S.slot r
    rw [e3] at qr
    obtain ⟨vr', e4, o⟩ := qr
    rw [e2] at e4
    cases e4
    obtain ⟨f, w1, w2⟩ := own_at o nd h1 l
    exact ⟨v, t', .bor (d - p.length), e1, ⟨f, w1, fun a ha => (S.out r a (w2 a ha)).2⟩, h2⟩
  · exact h.elim
  · exact h.elim
include M
theorem s_var {i : Nat} {x : Str} {pos : Pos} (G : Good c n C X N sc) (hi : N[i]? = some x) (hv : sc.names.lookup x = some .local ∨ sc.names.lookup x = some .cell ∨ sc.names.lookup x = some .free)
    (hd : (x == ("__debug__" : Str)) = false) (hc : (x == ("__classdict__" : Str)) = false) : PE X (.Name x pos) (trE Γ rd X.K (.var i)) := by
  refine PE.mono (pe_var (i := i) (by rw [G.hN]; exact hi) (G.vis hv) hd hc) fun σ H Q h => ?_
  obtain ⟨pn, He, H0e, H0, env, fps, S, h⟩ := h
  unfold wpE at h
  obtain ⟨v, t, o, e1, r, q⟩ := var_of S h
  exact ⟨v, e1, q H0 H v (Ext.refl S.le) r⟩
theorem s_int {i : Int} {j : Nat} {pos : Pos} : PE X (.Constant (.int i) j pos) (trE Γ rd X.K (.int i)) := by
  refine PE.mono pe_int fun σ H Q h => ?_
  obtain ⟨pn, He, H0e, H0, env, fps, S, h⟩ := h
  unfold wpE at h
  exact h H0 H _ (Ext.refl S.le) (VR.flat (by unfold Rep; rfl))
theorem s_bl {i : Bool} {j : Nat} {pos : Pos} : PE X (.Constant (.bool i) j pos) (trE Γ rd X.K (.bl i)) := by
  refine PE.mono pe_bl fun σ H Q h => ?_
  obtain ⟨pn, He, H0e, H0, env, fps, S, h⟩ := h
  unfold wpE at h
  exact h H0 H _ (Ext.refl S.le) (VR.flat (by unfold Rep; rfl))
theorem s_non {j : Nat} {pos : Pos} : PE X (.Constant .none j pos) (trE Γ rd X.K .non) := by
  refine PE.mono pe_non fun σ H Q h => ?_
  obtain ⟨pn, He, H0e, H0, env, fps, S, h⟩ := h
  unfold wpE at h
  exact h H0 H _ (Ext.refl S.le) (VR.flat (by unfold Rep; rfl))
theorem s_str {i : Str} {j : Nat} {pos : Pos} : PE X (.Constant (.str i) j pos) (trE Γ rd X.K (.str i)) := by
  refine PE.mono pe_str fun σ H Q h => ?_
  obtain ⟨pn, He, H0e, H0, env, fps, S, h⟩ := h
  unfold wpE at h
  exact h H0 H _ (Ext.refl S.le) (VR.flat (by unfold Rep; rfl))
/-! ### arguments -/
omit M in
theorem star_of' {e : Expr} {es : List Expr} {env : PySem.Env} (h : nst e = true) : starEach (e :: es) env = (false, eval e env) :: starEach es env := by
  cases e <;> first | rfl | cases h
theorem star_of {e : Expr} {es : List Expr} {env : PySem.Env} (h : nst e = true) : starEach (e :: es) env = (false, eval e env) :: starEach es env := by
  cases e <;> first | rfl | cases h
omit M in
theorem s_nil : PA X [] (trA Γ rd X.K .nil) := by
  refine PA.mono pa_nil fun σ H Q h => ?_
  obtain ⟨pn, He, H0e, H0, env, fps, S, h⟩ := h
  unfold wpEs at h
  exact h H0 H [] (Ext.refl S.le) rfl
theorem s_cons {e : Expr} {es : List Expr} {te : TE} {ts : TEs} (h : nst e = true) (he : PE X e (trE Γ rd X.K te)) (hs : PA X es (trA Γ rd X.K ts)) : PA X (e :: es) (trA Γ rd X.K (.cons te ts)) := by
  refine PA.mono (pa_cons he hs (star_of M h)) fun σ H Q h => ?_
  obtain ⟨pn, He, H0e, H0, env, fps, S, h⟩ := h
  unfold wpEs at h
  refine trE_of M S h fun t o H1 H' v x r h1 => ?_
  refine trA_of M (S.mono x) h1 fun l H2 H'' vs x2 r2 h2 => ?_
  refine h2 H2 H'' (v :: vs) (x.trans x2) ?_
  obtain ⟨f, q⟩ := r.first
  refine ⟨v, vs, H', rfl, x.s, x2.s, ⟨f, ?_⟩, r2⟩
  cases o with
  | bor d => exact ⟨q.1.ext x2, q.2⟩
  | fr d => exact ⟨q.1.ext x2, q.2.1, fun a ha => ⟨⟨(q.2.2 a ha).1.1, by
      obtain ⟨u, e⟩ := (q.2.2 a ha).2
      exact (x2.nw a _ e).trans (q.2.2 a ha).1.2⟩, (q.2.2 a ha).2⟩⟩
theorem s_tup {es : List Expr} {k : Nat} {pos : Pos} {ts : TEs} (hs : PA X es (trA Γ rd X.K ts)) : PE X (.Tuple es k pos) (trE Γ rd X.K (.tup ts)) := by
  refine PE.mono (pe_tup hs) fun σ H Q h => ?_
  obtain ⟨pn, He, H0e, H0, env, fps, S, h⟩ := h
  unfold wpE at h
  refine trA_of M S h fun l H1 H' vs x r h1 => ?_
  obtain ⟨us, ⟨h2, h3⟩, q⟩ := r.taken x (Same.refl _) h1
  refine ⟨by rw [reps_len q]; exact h2, fun p hp => h3 _ _ _ (x.frzN.newF (o := .tup vs) hp) ?_⟩
  refine VR.flat ?_
  unfold Rep
  exact ⟨p, vs, rfl, .inl (.inl upd_same), reps_mono (PT.same_upd (x.frzN.le.free hp)) us vs q⟩
theorem s_lst {es : List Expr} {d : Nat} {pos : Pos} {ts : TEs} (hs : PA X es (trA Γ rd X.K ts)) : PE X (.List es pos) (trE Γ rd X.K (.lst d ts)) := by
  refine PE.mono (pe_lst hs) fun σ H Q h => ?_
  obtain ⟨pn, He, H0e, H0, env, fps, S, h⟩ := h
  unfold wpE at h
  refine trA_of M S h fun l H1 H' vs x r h1 => ?_
  cases d with
  | zero =>
    have h1' : takes l (fun ts => ts.length ≤ sizeLine ∧ ∀ H0' H'_1 v, Ext H0 H H0' H'_1 → VR X.K He H H0' H'_1 (.fr 1) (.lst ts) v → Q v H'_1) := by
      have key : ∀ (l : List (T × Og)) (Q : List T → Prop), keeps 0 l Q → takes l Q := by
        intro l
        induction l with
        | nil => exact fun _ h => h
        | cons a r ih => exact fun Q h => take_mono (ih _) h
      exact key _ _ h1
    obtain ⟨us, ⟨h2, h3⟩, q⟩ := r.taken x (Same.refl _) h1'
    exact ⟨by rw [reps_len q]; exact h2, fun p hp => h3 _ _ _ (x.frzN.trans (Ext.new x.frzN.le hp)) (VR.newL x.frzN hp q)⟩
  | succ d =>
    obtain ⟨us, f, ⟨h2, h3⟩, q1, q2, q3⟩ := r.kept h1
    refine ⟨by rw [q1.len]; exact h2, fun p hp => h3 _ _ _ (x.trans (Ext.new x.le hp)) ?_⟩
    have hne : ∀ a ∈ f, a ≠ p := fun a ha z => by
      have hx : ∃ xs, H' a = some (.lst xs) := by
        have key : ∀ (ts : List T) (vs : List V) (f : List Addr), Owns (Own X.K H1 H' (d + 1)) ts vs f → ∀ b ∈ f, ∃ xs, H' b = some (.lst xs) := by
          intro ts
          induction ts with
          | nil =>
            intro vs f o b hb
            rw [o.2] at hb
            cases hb
          | cons t ts ih =>
            intro vs f o b hb
            obtain ⟨v, r, f1, f2, e1, e2, p, o⟩ := o
            subst e2
            rcases List.mem_append.mp hb with hb | hb
            · exact own_in _ t v f1 p b hb
            · exact ih r f2 o b hb
        exact key _ _ _ q1 a ha
      obtain ⟨xs, e⟩ := hx
      rw [z, hp] at e
      cases e
    refine ⟨p :: f, ⟨p, vs, f, rfl, upd_same, rfl, q1.imp fun t v g hg o => own_imp (Same.refl _) _ t v g (fun a ha => upd_ne (hne a (hg a ha))) o⟩, List.nodup_cons.mpr ⟨fun hm => hne p hm rfl, q2⟩, fun a ha => ?_⟩
    rcases List.mem_cons.mp ha with z | z
    · subst z
      exact ⟨x.s.free hp, x.le.free hp⟩
    · exact q3 a z
end
end
end PT

namespace PT
open PySem PySem.Spec PyProof.Rows L2
section
variable {c : Cfg} {n : Nat} {C : CXT} {X : Cx} {N : List Str} {sc : Scope}
variable {pn : List (Nat × V)} {K : PySem.W.Frag} {He H0e H0 H H0' H' H0'' H'' : Hp} {σ : L2.St} {env : Env} {fps : Nat → List Addr} {t : T} {v : V} {o : Og}
theorem VR.rep (hf : t.isLst = false) (r : VR K He H H0' H' o t v) : Rep K H0' t v := by
  cases o with
  | bor d =>
    obtain ⟨f, a, b⟩ := r
    exact (flat_own hf a).2
  | fr d =>
    obtain ⟨f, a, b, c⟩ := r
    exact (flat_own hf a).2
theorem VR.int {i : Int} (r : VR K He H H0' H' o (.int i) v) : v = .int i := by
  have := r.rep rfl
  unfold Rep at this
  exact this
theorem VR.bl {i : Bool} (r : VR K He H H0' H' o (.bl i) v) : v = .bl i := by
  have := r.rep rfl
  unfold Rep at this
  exact this
theorem VR.str {i : Str} (r : VR K He H H0' H' o (.str i) v) : v = .str i := by
  have := r.rep rfl
  unfold Rep at this
  exact this
theorem VR.non (r : VR K He H H0' H' o .non v) : v = .non := by
  have := r.rep rfl
  unfold Rep at this
  exact this
theorem VR.tup {ts : List T} (r : VR K He H H0' H' o (.tup ts) v) : ∃ a vs, v = .ref a ∧ SqT K H0' a vs ∧ Reps K H0' ts vs := by
  have := r.rep rfl
  unfold Rep at this
  exact this
theorem VR.scr {ts : List Int} (r : VR K He H H0' H' o (.scr ts) v) : ∃ a, v = .ref a ∧ SqL K H0' a (ts.map V.int) := by
  have := r.rep rfl
  unfold Rep at this
  exact this
theorem VR.lst {ts : List T} (le : Same H0' H') (r : VR K He H H0' H' o (.lst ts) v) : ∃ a vs, v = .ref a ∧ H' a = some (.lst vs) ∧ Reps K H' ts vs := by
  have := r.here le
  unfold Rep at this
  exact this
theorem VR.ofI {i : Int} : VR K He H H0' H' (.bor 0) (.int i) (.int i) := VR.flat (by unfold Rep; rfl)
theorem VR.ofB {i : Bool} : VR K He H H0' H' (.bor 0) (.bl i) (.bl i) := VR.flat (by unfold Rep; rfl)
theorem VR.ofS {i : Str} : VR K He H H0' H' (.bor 0) (.str i) (.str i) := VR.flat (by unfold Rep; rfl)
theorem VR.ofN : VR K He H H0' H' (.bor 0) .non .non := VR.flat (by unfold Rep; rfl)
section
variable {Γ : Gam} {rd : Nat → Nat}
/-- what is wanted behind: a value in any heap behind the entry's -/
abbrev Wish (K : PySem.W.Frag) (He H0 H : Hp) (Q : VK) : T → Og → Prop := fun t o => ∀ H0' H' v, Ext H0 H H0' H' → VR K He H H0' H' o t v → Q v H'
theorem two_of (M : Γ.Mono) {a b : TE} {k : T → Og → T → Og → Prop} {R : V → V → Hp → Prop} (S : StR K pn He H0e H0 H σ env fps) (h : wpE Γ rd a env fun x o => wpE Γ rd b env fun y o' => k x o y o')
    (hk : ∀ x o y o' H0' H' v w, Ext H0 H H0' H' → VR K He H H0' H' o x v → VR K He H H0' H' o' y w → k x o y o' → R v w H') :
    trE Γ rd K a σ H fun v H1 => trE Γ rd K b σ H1 fun w H2 => R v w H2 :=
  trE_of M S h fun x o H1 H' v x1 r1 h1 => trE_of M (S.mono x1) h1 fun y o' H2 H'' w x2 r2 h2 => hk x o y o' H2 H'' v w (x1.trans x2) (r1.ext x2) (r2.base x1.s) h2

/-! ### two operands -/
def bOp : BOp → Operator
  | .add => .Add
  | .sub => .Sub
  | .mul => .Mult
  | .fdiv => .FloorDiv
  | .mod => .Mod
  | .pow => .Pow
  | .fdivN => .FloorDiv
  | .fdivW => .FloorDiv
/-- // by any divisor below 2 ^ 9000 -/
theorem op_fdivNW : OpR X (binaryOp .FloorDiv) (rI (fun _ j => j ≠ 0 ∧ j.natAbs.log2 < 9000) fun i j => .int (i.fdiv j)) := opI fun i j _ _ _ _ _ hc q => floordiv_int hc.1 q (.inl (PyProof.noPylong_of_log2 hc.2))
/-- // of any two numbers that the long division serves -/
theorem op_fdivWW : OpR X (binaryOp .FloorDiv) (rI (fun i j => j ≠ 0 ∧ Builtin.divisionGoesByPylong i j = false) fun i j => .int (i.fdiv j)) := opI fun i j _ _ _ _ _ hc q => floordiv_int hc.1 q (.inl hc.2)
theorem op_mulX : OpR X (binaryOp .Mult) (rI IntMulOk fun i j => .int (i * j)) := opI fun _ _ _ _ _ _ _ hc q => mul_int q hc
theorem reps_rep {ts : List T} {vs : List V} (r : Reps K H ts vs) : ∀ k : Nat, Reps K H (List.replicate k ts).flatten (List.replicate k vs).flatten
  | 0 => by simpa using reps_nil
  | k + 1 => by
    rw [List.replicate_succ, List.replicate_succ, List.flatten_cons, List.flatten_cons]
    exact reps_append r (reps_rep r k)
theorem s_bin (M : Γ.Mono) {op : BOp} {a b : Expr} {pos : Pos} {ta tb : TE} (ha : PE X a (trE Γ rd X.K ta)) (hb : PE X b (trE Γ rd X.K tb)) : PE X (.BinOp a (bOp op) b pos) (trE Γ rd X.K (.bin op ta tb)) := by
  have pre : ∀ {R : V → V → Hp → Prop} {σ : L2.St} {H : Hp} {Q : VK}, trE Γ rd X.K (.bin op ta tb) σ H Q → (∀ He H0 H0' H' x o y o' v w, Ext H0 H H0' H' → VR X.K He H H0' H' o x v → VR X.K He H H0' H' o' y w → binT op x o y o' (Wish X.K He H0 H Q) → R v w H') →
      trE Γ rd X.K ta σ H fun v H1 => trE Γ rd X.K tb σ H1 fun w H2 => R v w H2 := fun h k => by
    obtain ⟨pn, He, H0e, H0, env, fps, S, h⟩ := h
    unfold wpE at h
    exact two_of M S h fun x o y o' H0' H' v w e r1 r2 q => k He H0 H0' H' x o y o' v w e r1 r2 q
  cases op with
  | add =>
    refine PE.mono (pe_op (op_add.or (op_cat.or (op_add_str.or op_catA))) ha hb) fun σ H Q h => pre h fun He H0 H0' H' x o y o' v w e r1 r2 q => ?_
    cases x with
    | int i =>
      cases y with
      | int j => exact .inl ⟨i, j, r1.int, r2.int, q _ _ _ e VR.ofI⟩
      | _ => exact q.elim
    | str i =>
      cases y with
      | str j => exact .inr (.inr (.inl ⟨i, j, r1.str, r2.str, q.1, q.2 _ _ _ e VR.ofS⟩))
      | _ => exact q.elim
    | lst xs =>
      cases y with
      | lst ys =>
        obtain ⟨s1, s2, hz, q⟩ := q
        obtain ⟨a1, vs, e1, e2, e3⟩ := r1.items e (.inl s1)
        obtain ⟨a2, ws, e4, e5, e6⟩ := r2.items e (.inl s2)
        exact .inr (.inl ⟨a1, a2, vs, ws, e1, e4, e2, e5, by rw [reps_len e3, reps_len e6]; exact hz, fun p hp => q _ _ _ (e.frzN.trans (Ext.new e.frzN.le hp)) (VR.newL e.frzN hp (reps_append e3 e6))⟩)
      | _ => exact q.elim
    | tup xs =>
      cases y with
      | tup ys =>
        obtain ⟨hz, q⟩ := q
        obtain ⟨a1, vs, e1, e2, e3⟩ := r1.tup
        obtain ⟨a2, ws, e4, e5, e6⟩ := r2.tup
        have l1 := reps_len e3
        have l2 := reps_len e6
        refine .inr (.inr (.inr ⟨a1, a2, vs, ws, e1, e4, sqT_mono e.le e2, sqT_mono e.le e5, by rw [l1, l2]; exact hz, fun z => ?_, fun _ z => ?_, fun _ z p hp => ?_⟩))
        · have : xs = [] := List.eq_nil_of_length_eq_zero (by rw [← l1, z]; rfl)
          subst this
          refine q _ _ _ e (VR.flat ?_)
          unfold Rep
          exact ⟨a2, ws, rfl, e5, by simpa using e6⟩
        · have : ys = [] := List.eq_nil_of_length_eq_zero (by rw [← l2, z]; rfl)
          subst this
          refine q _ _ _ e (VR.flat ?_)
          unfold Rep
          exact ⟨a1, vs, rfl, e2, by simpa using e3⟩
        · refine q _ _ _ (e.newF (o := .tup (vs ++ ws)) hp) (VR.flat ?_)
          unfold Rep
          exact ⟨p, vs ++ ws, rfl, .inl (.inl upd_same), reps_mono (PT.same_upd (e.le.free hp)) _ _ (reps_append e3 e6)⟩
      | _ => exact q.elim
    | _ => exact q.elim
  | sub =>
    refine PE.mono (pe_op op_sub ha hb) fun σ H Q h => pre h fun He H0 H0' H' x o y o' v w e r1 r2 q => ?_
    cases x with
    | int i =>
      cases y with
      | int j => exact ⟨i, j, r1.int, r2.int, q _ _ _ e VR.ofI⟩
      | _ => exact q.elim
    | _ => exact q.elim
  | mul =>
    refine PE.mono (pe_op (op_mulX.or op_rep) ha hb) fun σ H Q h => pre h fun He H0 H0' H' x o y o' v w e r1 r2 q => ?_
    cases x with
    | int i =>
      cases y with
      | int j => exact .inl ⟨i, j, r1.int, r2.int, q.1, q.2 _ _ _ e VR.ofI⟩
      | _ => exact q.elim
    | lst xs =>
      cases y with
      | int j =>
        obtain ⟨s1, hb, hz, q⟩ := q
        obtain ⟨a1, vs, e1, e2, e3⟩ := r1.items e (.inl s1)
        exact .inr ⟨a1, j, vs, e1, r2.int, e2, hb.1, hb.2, by rw [reps_len e3]; exact hz, fun p hp => q _ _ _ (e.frzN.trans (Ext.new e.frzN.le hp)) (VR.newL e.frzN hp (reps_rep e3 _))⟩
      | _ => exact q.elim
    | _ => exact q.elim
  | fdiv =>
    refine PE.mono (pe_op op_fdivW ha hb) fun σ H Q h => pre h fun He H0 H0' H' x o y o' v w e r1 r2 q => ?_
    cases x with
    | int i =>
      cases y with
      | int j => exact ⟨i, j, r1.int, r2.int, q.1, q.2 _ _ _ e VR.ofI⟩
      | _ => exact q.elim
    | _ => exact q.elim
  | fdivN =>
    refine PE.mono (pe_op op_fdivNW ha hb) fun σ H Q h => pre h fun He H0 H0' H' x o y o' v w e r1 r2 q => ?_
    cases x with
    | int i =>
      cases y with
      | int j => exact ⟨i, j, r1.int, r2.int, q.1, q.2 _ _ _ e VR.ofI⟩
      | _ => exact q.elim
    | _ => exact q.elim
  | fdivW =>
    refine PE.mono (pe_op op_fdivWW ha hb) fun σ H Q h => pre h fun He H0 H0' H' x o y o' v w e r1 r2 q => ?_
    cases x with
    | int i =>
      cases y with
      | int j => exact ⟨i, j, r1.int, r2.int, q.1, q.2 _ _ _ e VR.ofI⟩
      | _ => exact q.elim
    | _ => exact q.elim
  | mod =>
    refine PE.mono (pe_op op_mod ha hb) fun σ H Q h => pre h fun He H0 H0' H' x o y o' v w e r1 r2 q => ?_
    cases x with
    | int i =>
      cases y with
      | int j => exact ⟨i, j, r1.int, r2.int, q.1, q.2 _ _ _ e VR.ofI⟩
      | _ => exact q.elim
    | _ => exact q.elim
  | pow =>
    refine PE.mono (pe_op op_pow ha hb) fun σ H Q h => pre h fun He H0 H0' H' x o y o' v w e r1 r2 q => ?_
    cases x with
    | int i =>
      cases y with
      | int j => exact ⟨i, j, r1.int, r2.int, q.1, q.2 _ _ _ e VR.ofI⟩
      | _ => exact q.elim
    | _ => exact q.elim
theorem s_neg (M : Γ.Mono) {a : Expr} {pos : Pos} {ta : TE} (ha : PE X a (trE Γ rd X.K ta)) : PE X (.UnaryOp .USub a pos) (trE Γ rd X.K (.neg ta)) := by
  refine PE.mono (pe_un un_neg ha) fun σ H Q h => ?_
  obtain ⟨pn, He, H0e, H0, env, fps, S, h⟩ := h
  unfold wpE at h
  refine trE_of M S h fun x o H1 H' v e r q => ?_
  cases x with
  | int i => exact ⟨i, r.int, q _ _ _ e VR.ofI⟩
  | _ => exact q.elim

/-! ### comparisons -/
def cOp : COp → CmpOp
  | .lt => .Lt
  | .le => .LtE
  | .gt => .Gt
  | .ge => .GtE
  | .eq => .Eq
  | .ne => .NotEq
  | .isN => .Is
  | .notN => .IsNot
  | .in_ => .In
  | .notIn => .NotIn
mutual
def T.dat : T → PyData
  | .non => .none
  | .bl b => .bool b
  | .int i => .int i
  | .str x => .str x
  | .tup ts => .tuple (T.dats ts)
  | .lst ts => .list (T.dats ts)
  | _ => .none
def T.dats : List T → List PyData
  | [] => []
  | t :: ts => T.dat t :: T.dats ts
end
mutual
theorem dat_ok : ∀ (t : T) (n : Nat) (v : V), t.dep n → Rep K H t v → Dp K H v t.dat
  | .non, n, v, d, r => by
    unfold Rep at r
    subst r
    exact .non
  | .bl b, n, v, d, r => by
    unfold Rep at r
    subst r
    exact .bl b
  | .int b, n, v, d, r => by
    unfold Rep at r
    subst r
    exact .int b
  | .str b, n, v, d, r => by
    unfold Rep at r
    subst r
    exact .str b
  | .tup ts, 0, v, d, r => by
    unfold T.dep at d
    exact d.elim
  | .tup ts, n + 1, v, d, r => by
    unfold T.dep at d
    unfold Rep at r
    obtain ⟨a, vs, e1, e2, e3⟩ := r
    subst e1
    exact .tup e2 (dats_ok ts n vs d e3)
  | .lst ts, 0, v, d, r => by
    unfold T.dep at d
    exact d.elim
  | .lst ts, n + 1, v, d, r => by
    unfold T.dep at d
    unfold Rep at r
    obtain ⟨a, vs, e1, e2, e3⟩ := r
    subst e1
    exact .lst (.inl (.inl e2)) (dats_ok ts n vs d e3)
  | .scr _, 0, v, d, r => by
    unfold T.dep at d
    exact d.elim
  | .scr _, n + 1, v, d, r => by
    unfold T.dep at d
    exact d.elim
  | .ins _ _ _, 0, v, d, r => by
    unfold T.dep at d
    exact d.elim
  | .ins _ _ _, n + 1, v, d, r => by
    unfold T.dep at d
    exact d.elim
theorem dats_ok : ∀ (ts : List T) (n : Nat) (vs : List V), T.deps ts n → Reps K H ts vs → DpAll K H vs (T.dats ts)
  | [], n, vs, d, r => by
    unfold Reps at r
    subst r
    exact .nil
  | t :: ts, n, vs, d, r => by
    unfold T.deps at d
    unfold Reps at r
    obtain ⟨v, r, e1, e2, e3⟩ := r
    subst e1
    exact .cons (dat_ok t n v d.1 e2) (dats_ok ts n r d.2 e3)
end
end
end
end PT

namespace PT
open PySem PySem.Spec PyProof.Rows L2
mutual
theorem dep_lay : ∀ (t : T) (n : Nat), t.dep n → PyData.canLay0 t.dat = true ∧ t.dat.depth ≤ n
  | .non, n, d => ⟨by simp [T.dat, PyData.canLay0], by simp [T.dat, PyData.depth]⟩
  | .bl b, n, d => ⟨by simp [T.dat, PyData.canLay0], by simp [T.dat, PyData.depth]⟩
  | .int b, n, d => ⟨by simp [T.dat, PyData.canLay0], by simp [T.dat, PyData.depth]⟩
  | .str b, n, d => ⟨by
      unfold T.dep at d
      exact d, by simp [T.dat, PyData.depth]⟩
  | .tup ts, 0, d => by
    unfold T.dep at d
    exact d.elim
  | .tup ts, n + 1, d => by
    unfold T.dep at d
    have h := deps_lay ts n d
    exact ⟨by simpa [T.dat, PyData.canLay0] using h.1, by simpa [T.dat, PyData.depth] using h.2⟩
  | .lst ts, 0, d => by
    unfold T.dep at d
    exact d.elim
  | .lst ts, n + 1, d => by
    unfold T.dep at d
    have h := deps_lay ts n d
    exact ⟨by simpa [T.dat, PyData.canLay0] using h.1, by simpa [T.dat, PyData.depth] using h.2⟩
  | .scr _, 0, d => by
    unfold T.dep at d
    exact d.elim
  | .scr _, n + 1, d => by
    unfold T.dep at d
    exact d.elim
  | .ins _ _ _, 0, d => by
    unfold T.dep at d
    exact d.elim
  | .ins _ _ _, n + 1, d => by
    unfold T.dep at d
    exact d.elim
theorem deps_lay : ∀ (ts : List T) (n : Nat), T.deps ts n → PyData.canLayAll0 (T.dats ts) = true ∧ PyData.depthAll (T.dats ts) ≤ n
  | [], n, d => ⟨by simp [T.dats, PyData.canLayAll0], by simp [T.dats, PyData.depthAll]⟩
  | t :: ts, n, d => by
    unfold T.deps at d
    have h1 := dep_lay t n d.1
    have h2 := deps_lay ts n d.2
    exact ⟨by simp [T.dats, PyData.canLayAll0, h1.1, h2.1], by
      simp only [T.dats, PyData.depthAll]
      omega⟩
end
theorem dep_shaped {t : T} (d : t.dep 60) : SeqAt.shaped t.dat = true := by
  have h := dep_lay t 60 d
  unfold SeqAt.shaped
  rw [h.1, Bool.true_and]
  exact decide_eq_true (by omega)
mutual
theorem beq_eqv : ∀ (x y : T) (n m : Nat), x.dep n → y.dep m → T.beq x y = PyData.eqv x.dat y.dat
  | .tup xs, .tup ys, 0, m, h, _ => by
    unfold T.dep at h
    exact h.elim
  | .tup xs, .tup ys, n + 1, 0, _, h => by
    unfold T.dep at h
    exact h.elim
  | .tup xs, .tup ys, n + 1, m + 1, h1, h2 => by
    unfold T.dep at h1 h2
    simp only [T.beq, T.dat, PyData.eqv]
    exact beqs_eqv xs ys n m h1 h2
  | .lst xs, .lst ys, 0, m, h, _ => by
    unfold T.dep at h
    exact h.elim
  | .lst xs, .lst ys, n + 1, 0, _, h => by
    unfold T.dep at h
    exact h.elim
  | .lst xs, .lst ys, n + 1, m + 1, h1, h2 => by
    unfold T.dep at h1 h2
    simp only [T.beq, T.dat, PyData.eqv]
    exact beqs_eqv xs ys n m h1 h2
  | .scr _, y, 0, m, h, _ => by
    unfold T.dep at h
    exact h.elim
  | .scr _, y, n + 1, m, h, _ => by
    unfold T.dep at h
    exact h.elim
  | .ins _ _ _, y, 0, m, h, _ => by
    unfold T.dep at h
    exact h.elim
  | .ins _ _ _, y, n + 1, m, h, _ => by
    unfold T.dep at h
    exact h.elim
  | x, .scr _, n, 0, _, h => by
    unfold T.dep at h
    exact h.elim
  | x, .scr _, n, m + 1, _, h => by
    unfold T.dep at h
    exact h.elim
  | x, .ins _ _ _, n, 0, _, h => by
    unfold T.dep at h
    exact h.elim
  | x, .ins _ _ _, n, m + 1, _, h => by
    unfold T.dep at h
    exact h.elim
  | .non, .non, n, m, _, _ | .non, .bl _, n, m, _, _ | .non, .int _, n, m, _, _ | .non, .str _, n, m, _, _ | .non, .tup _, n, m, _, _ | .non, .lst _, n, m, _, _ => by simp only [T.beq, T.dat, PyData.eqv]
  | .bl _, .non, n, m, _, _ | .bl _, .bl _, n, m, _, _ | .bl _, .int _, n, m, _, _ | .bl _, .str _, n, m, _, _ | .bl _, .tup _, n, m, _, _ | .bl _, .lst _, n, m, _, _ => by simp only [T.beq, T.dat, PyData.eqv]
  | .int _, .non, n, m, _, _ | .int _, .bl _, n, m, _, _ | .int _, .int _, n, m, _, _ | .int _, .str _, n, m, _, _ | .int _, .tup _, n, m, _, _ | .int _, .lst _, n, m, _, _ => by simp only [T.beq, T.dat, PyData.eqv]
  | .str _, .non, n, m, _, _ | .str _, .bl _, n, m, _, _ | .str _, .int _, n, m, _, _ | .str _, .str _, n, m, _, _ | .str _, .tup _, n, m, _, _ | .str _, .lst _, n, m, _, _ => by simp only [T.beq, T.dat, PyData.eqv]
  | .tup _, .non, n, m, _, _ | .tup _, .bl _, n, m, _, _ | .tup _, .int _, n, m, _, _ | .tup _, .str _, n, m, _, _ | .tup _, .lst _, n, m, _, _ => by simp only [T.beq, T.dat, PyData.eqv]
  | .lst _, .non, n, m, _, _ | .lst _, .bl _, n, m, _, _ | .lst _, .int _, n, m, _, _ | .lst _, .str _, n, m, _, _ | .lst _, .tup _, n, m, _, _ => by simp only [T.beq, T.dat, PyData.eqv]
theorem beqs_eqv : ∀ (xs ys : List T) (n m : Nat), T.deps xs n → T.deps ys m → T.beqs xs ys = PyData.eqvAll (T.dats xs) (T.dats ys)
  | [], [], n, m, _, _ => by simp only [T.beqs, T.dats, PyData.eqvAll]
  | [], y :: ys, n, m, _, _ => by simp only [T.beqs, T.dats, PyData.eqvAll]
  | x :: xs, [], n, m, _, _ => by simp only [T.beqs, T.dats, PyData.eqvAll]
  | x :: xs, y :: ys, n, m, h1, h2 => by
    unfold T.deps at h1 h2
    simp only [T.beqs, T.dats, PyData.eqvAll]
    rw [beq_eqv x y n m h1.1 h2.1, beqs_eqv xs ys n m h1.2 h2.2]
end
theorem flat_V {K : PySem.W.Frag} {H : Hp} {t : T} {v : V} (f : t.flat = true) (r : Rep K H t v) : flatV v = true := by
  cases t <;> first | (unfold Rep at r; subst r; rfl) | cases f
theorem flat_beq {K : PySem.W.Frag} {H : Hp} {t u : T} {v w : V} (f : t.flat = true) (g : u.flat = true) (r : Rep K H t v) (q : Rep K H u w) : T.beq t u = eqV v w := by
  cases t <;> first | exact absurd f Bool.false_ne_true | (cases u <;> first | exact absurd g Bool.false_ne_true | (unfold Rep at r q; subst r; subst q; simp only [T.beq, eqV]))
theorem flats_any {K : PySem.W.Frag} {H : Hp} {t : T} {v : V} (f : t.flat = true) (r : Rep K H t v) : ∀ {ts : List T} {vs : List V}, ts.all T.flat = true → Reps K H ts vs → vs.all flatV = true ∧ (ts.any fun y => T.beq y t) = vs.any fun y => eqV y v
  | [], vs, _, h => by
    unfold Reps at h
    subst h
    exact ⟨rfl, rfl⟩
  | y :: ys, vs, g, h => by
    unfold Reps at h
    obtain ⟨w, rs, e1, e2, e3⟩ := h
    subst e1
    rw [List.all_cons, Bool.and_eq_true] at g
    obtain ⟨h1, h2⟩ := flats_any f r g.2 e3
    rw [List.all_cons, List.any_cons, List.any_cons, h1, h2, flat_beq g.1 f e2 r, flat_V g.1 e2]
    exact ⟨rfl, rfl⟩
section
variable {c : Cfg} {n : Nat} {C : CXT} {X : Cx} {N : List Str} {sc : Scope}
variable {pn : List (Nat × V)} {K : PySem.W.Frag} {He H0e H0 H H0' H' H0'' H'' : Hp} {σ : L2.St} {env : Env} {fps : Nat → List Addr} {t : T} {v : V} {o : Og}
variable {Γ : Gam} {rd : Nat → Nat}
theorem rep_isNon {t : T} {v : V} (r : Rep K H t v) : decide (v = .non) = t.isNon := by
  cases t with
  | non => unfold Rep at r; subst r; rfl
  | bl _ => unfold Rep at r; subst r; rfl
  | int _ => unfold Rep at r; subst r; rfl
  | str _ => unfold Rep at r; subst r; rfl
  | tup _ => unfold Rep at r; obtain ⟨a, vs, e, _⟩ := r; subst e; rfl
  | lst _ => unfold Rep at r; obtain ⟨a, vs, e, _⟩ := r; subst e; rfl
  | scr _ => unfold Rep at r; obtain ⟨a, e, _⟩ := r; subst e; rfl
  | ins _ _ _ => unfold Rep at r; obtain ⟨a, _, _, e, _⟩ := r; subst e; rfl
theorem cmp_rule (M : Γ.Mono) (hu : X.A.units + 64 < cLine) (op : COp) (ta tb : TE) : ∃ r : R2, OpR X (compareOp (cOp op)) r ∧ ∀ σ H Q, trE Γ rd X.K (.cmp op ta tb) σ H Q → tOp r (trE Γ rd X.K ta) (trE Γ rd X.K tb) σ H Q := by
  have pre : ∀ {R : V → V → Hp → Prop} {σ : L2.St} {H : Hp} {Q : VK}, trE Γ rd X.K (.cmp op ta tb) σ H Q → (∀ He H0 H0' H' x o y o' v w, Ext H0 H H0' H' → VR X.K He H H0' H' o x v → VR X.K He H H0' H' o' y w → cmpT op x y (Wish X.K He H0 H Q) → R v w H') →
      trE Γ rd X.K ta σ H fun v H1 => trE Γ rd X.K tb σ H1 fun w H2 => R v w H2 := fun h k => by
    obtain ⟨pn, He, H0e, H0, env, fps, S, h⟩ := h
    unfold wpE at h
    exact two_of (k := fun x _ y _ => cmpT op x y _) M S h fun x o y o' H0' H' v w e r1 r2 q => k He H0 H0' H' x o y o' v w e r1 r2 q
  have deep : ∀ {He H0 H H0' H' : Hp} {x y : T} {o o' : Og} {v w : V}, Ext H0 H H0' H' → VR X.K He H H0' H' o x v → VR X.K He H H0' H' o' y w → x.dep 60 → y.dep 60 → Dp X.K H' v x.dat ∧ Dp X.K H' w y.dat ∧ SeqAt.shaped x.dat = true ∧ SeqAt.shaped y.dat = true ∧ PyData.eqv x.dat y.dat = T.beq x y :=
    fun e r1 r2 d1 d2 => ⟨dat_ok _ _ _ d1 (r1.here e.le), dat_ok _ _ _ d2 (r2.here e.le), dep_shaped d1, dep_shaped d2, (beq_eqv _ _ _ _ d1 d2).symm⟩
  cases op with
  | lt =>
    refine ⟨_, op_lt, fun σ H Q h => pre h fun He H0 H0' H' x o y o' v w e r1 r2 q => ?_⟩
    cases x with
    | int i =>
      cases y with
      | int j => exact ⟨i, j, r1.int, r2.int, q _ _ _ e VR.ofB⟩
      | _ => exact q.elim
    | _ => exact q.elim
  | le =>
    refine ⟨_, op_le, fun σ H Q h => pre h fun He H0 H0' H' x o y o' v w e r1 r2 q => ?_⟩
    cases x with
    | int i =>
      cases y with
      | int j => exact ⟨i, j, r1.int, r2.int, q _ _ _ e VR.ofB⟩
      | _ => exact q.elim
    | _ => exact q.elim
  | gt =>
    refine ⟨_, op_gt, fun σ H Q h => pre h fun He H0 H0' H' x o y o' v w e r1 r2 q => ?_⟩
    cases x with
    | int i =>
      cases y with
      | int j => exact ⟨i, j, r1.int, r2.int, q _ _ _ e VR.ofB⟩
      | _ => exact q.elim
    | _ => exact q.elim
  | ge =>
    refine ⟨_, op_ge, fun σ H Q h => pre h fun He H0 H0' H' x o y o' v w e r1 r2 q => ?_⟩
    cases x with
    | int i =>
      cases y with
      | int j => exact ⟨i, j, r1.int, r2.int, q _ _ _ e VR.ofB⟩
      | _ => exact q.elim
    | _ => exact q.elim
  | eq =>
    refine ⟨_, (op_eq.or (op_eqD hu)), fun σ H Q h => pre h fun He H0 H0' H' x o y o' v w e r1 r2 q => ?_⟩
    have gen : x.dep 60 ∧ y.dep 60 ∧ Wish X.K He H0 H Q (.bl (T.beq x y)) (.bor 0) → rEq v w H' Q ∨ rEqD X.K v w H' Q := fun ⟨d1, d2, q⟩ => by
      obtain ⟨h1, h2, h3, h4, h5⟩ := deep e r1 r2 d1 d2
      exact .inr ⟨_, _, h1, h2, h3, h4, by rw [h5]; exact q _ _ _ e VR.ofB⟩
    cases x with
    | int i =>
      cases y with
      | int j =>
        refine .inl ?_
        rw [r1.int, r2.int]
        refine ⟨rfl, ?_⟩
        rw [show decide (V.int i = V.int j) = decide (i = j) by rw [dec_int, Bool.beq_eq_decide_eq]]
        exact q _ _ _ e VR.ofB
      | _ => exact gen q
    | _ => exact gen q
  | ne =>
    refine ⟨_, (op_ne.or (op_neD hu)), fun σ H Q h => pre h fun He H0 H0' H' x o y o' v w e r1 r2 q => ?_⟩
    have gen : x.dep 60 ∧ y.dep 60 ∧ Wish X.K He H0 H Q (.bl (!T.beq x y)) (.bor 0) → rNe v w H' Q ∨ rNeD X.K v w H' Q := fun ⟨d1, d2, q⟩ => by
      obtain ⟨h1, h2, h3, h4, h5⟩ := deep e r1 r2 d1 d2
      exact .inr ⟨_, _, h1, h2, h3, h4, by rw [h5]; exact q _ _ _ e VR.ofB⟩
    cases x with
    | int i =>
      cases y with
      | int j =>
        refine .inl ?_
        rw [r1.int, r2.int]
        refine ⟨rfl, ?_⟩
        rw [show decide (V.int i = V.int j) = decide (i = j) by rw [dec_int, Bool.beq_eq_decide_eq]]
        exact q _ _ _ e VR.ofB
      | _ => exact gen q
    | _ => exact gen q
  | isN =>
    refine ⟨_, op_isN, fun σ H Q h => pre h fun He H0 H0' H' x o y o' v w e r1 r2 q => ?_⟩
    cases y with
    | non => exact ⟨r2.non, by rw [rep_isNon (r1.here e.le)]; exact q _ _ _ e VR.ofB⟩
    | _ => exact q.elim
  | notN =>
    refine ⟨_, op_notN, fun σ H Q h => pre h fun He H0 H0' H' x o y o' v w e r1 r2 q => ?_⟩
    cases y with
    | non => exact ⟨r2.non, by rw [rep_isNon (r1.here e.le)]; exact q _ _ _ e VR.ofB⟩
    | _ => exact q.elim
  | in_ =>
    refine ⟨_, op_in_seq, fun σ H Q h => pre h fun He H0 H0' H' x o y o' v w e r1 r2 q => ?_⟩
    cases y with
    | lst ys =>
      obtain ⟨f1, f2, q⟩ := q
      obtain ⟨a2, ws, e4, e5, e6⟩ := r2.lst e.le
      obtain ⟨g1, g2⟩ := flats_any f1 (r1.here e.le) f2 e6
      exact ⟨a2, ws, e4, .inl (.inl (.inl e5)), flat_V f1 (r1.here e.le), g1, by
        show Q (.bl (inV v ws)) H'
        unfold inV
        rw [← g2]
        exact q _ _ _ e VR.ofB⟩
    | tup ys =>
      obtain ⟨f1, f2, q⟩ := q
      obtain ⟨a2, ws, e4, e5, e6⟩ := r2.tup
      obtain ⟨g1, g2⟩ := flats_any f1 (r1.here e.le) f2 (reps_mono e.le _ _ e6)
      exact ⟨a2, ws, e4, .inr (sqT_mono e.le e5), flat_V f1 (r1.here e.le), g1, by
        show Q (.bl (inV v ws)) H'
        unfold inV
        rw [← g2]
        exact q _ _ _ e VR.ofB⟩
    | _ => exact q.elim
  | notIn =>
    refine ⟨_, op_notIn_seq, fun σ H Q h => pre h fun He H0 H0' H' x o y o' v w e r1 r2 q => ?_⟩
    cases y with
    | lst ys =>
      obtain ⟨f1, f2, q⟩ := q
      obtain ⟨a2, ws, e4, e5, e6⟩ := r2.lst e.le
      obtain ⟨g1, g2⟩ := flats_any f1 (r1.here e.le) f2 e6
      exact ⟨a2, ws, e4, .inl (.inl (.inl e5)), flat_V f1 (r1.here e.le), g1, by
        show Q (.bl (!inV v ws)) H'
        unfold inV
        rw [← g2]
        exact q _ _ _ e VR.ofB⟩
    | tup ys =>
      obtain ⟨f1, f2, q⟩ := q
      obtain ⟨a2, ws, e4, e5, e6⟩ := r2.tup
      obtain ⟨g1, g2⟩ := flats_any f1 (r1.here e.le) f2 (reps_mono e.le _ _ e6)
      exact ⟨a2, ws, e4, .inr (sqT_mono e.le e5), flat_V f1 (r1.here e.le), g1, by
        show Q (.bl (!inV v ws)) H'
        unfold inV
        rw [← g2]
        exact q _ _ _ e VR.ofB⟩
    | _ => exact q.elim

/-! ### and, or, not, if -/
theorem tru_bl {x : T} {k : Bool → Prop} (r : VR K He H H0' H' o x v) (h : tru x k) : ∃ b, v = .bl b ∧ k b := by
  cases x with
  | bl b => exact ⟨b, r.bl, h⟩
  | _ => exact h.elim
/-- a test -/
def trT (Γ : Gam) (rd : Nat → Nat) (K : PySem.W.Frag) (e : TE) : TT := fun σ H Q => ∃ pn He H0e H0 env fps, StR K pn He H0e H0 H σ env fps ∧ wpE Γ rd e env fun x _ => tru x fun b => ∀ H0' H', Ext H0 H H0' H' → Q b H'
theorem PT.mono {X : Cx} {e : Expr} {t t' : TT} (h : L2.PT X e t) (k : ∀ σ H Q, t' σ H Q → t σ H Q) : L2.PT X e t' := ⟨fun pins s σ H Q I q => h.run pins s σ H Q I (k σ H Q q)⟩
theorem PW.mono {X : Cx} {e : Expr} {t t' : TT} (h : L2.PW X e t) (k : ∀ σ H Q, t' σ H Q → t σ H Q) : L2.PW X e t' := ⟨fun wh pins s σ H Q I q => h.run wh pins s σ H Q I (k σ H Q q)⟩
theorem trT_of (M : Γ.Mono) {e : TE} {k : Bool → Prop} {Q : Bool → Hp → Prop} (S : StR K pn He H0e H0 H σ env fps) (h : wpE Γ rd e env fun x _ => tru x k) (hk : ∀ b H0' H', Ext H0 H H0' H' → k b → Q b H') : trT Γ rd K e σ H Q :=
  ⟨pn, He, H0e, H0, env, fps, S, wpE_mono M e env _ _ (fun t o => tru_mono fun b q H0' H' x => hk b H0' H' x q) h⟩
theorem s_not (M : Γ.Mono) {a : Expr} {pos : Pos} {ta : TE} (ha : PE X a (trE Γ rd X.K ta)) : PE X (.UnaryOp .Not a pos) (trE Γ rd X.K (.not ta)) := by
  refine PE.mono (pe_not ha) fun σ H Q h => ?_
  obtain ⟨pn, He, H0e, H0, env, fps, S, h⟩ := h
  unfold wpE at h
  refine trE_of M S h fun x o H1 H' v e r q => ?_
  obtain ⟨b, e1, q⟩ := tru_bl r q
  exact ⟨b, e1, q _ _ _ e VR.ofB⟩
theorem t_not (M : Γ.Mono) {a : Expr} {pos : Pos} {ta : TE} (ha : L2.PT X a (trT Γ rd X.K ta)) : L2.PT X (.UnaryOp .Not a pos) (trT Γ rd X.K (.not ta)) := by
  refine PT.mono (pt_not ha) fun σ H Q h => ?_
  obtain ⟨pn, He, H0e, H0, env, fps, S, h⟩ := h
  unfold wpE at h
  exact trT_of M S h fun b H0' H' x q => q _ _ x
/-- any expression that is a bool, as a test -/
theorem t_val (M : Γ.Mono) {e : Expr} {te : TE} (he : PE X e (trE Γ rd X.K te)) (hw : ∀ whole, isTrue e X.env whole = (do let v ← whole; standAt e.pos; holding [v] (truthy v))) : L2.PT X e (trT Γ rd X.K te) := by
  refine PT.mono (pt_val he hw) fun σ H Q h => ?_
  obtain ⟨pn, He, H0e, H0, env, fps, S, h⟩ := h
  refine trE_of M S h fun x o H1 H' v ex r q => ?_
  obtain ⟨b, e1, q⟩ := tru_bl r q
  exact ⟨b, e1, q _ _ ex⟩
theorem s_cmp (M : Γ.Mono) (hu : X.A.units + 64 < cLine) {op : COp} {a b : Expr} {pos : Pos} {ta tb : TE} (hm : behindInMarks (cOp op) b = false) (ha : PE X a (trE Γ rd X.K ta)) (hb : PE X b (trE Γ rd X.K tb)) : PE X (.Compare a [cOp op] [b] pos) (trE Γ rd X.K (.cmp op ta tb)) := by
  obtain ⟨r, ho, k⟩ := cmp_rule (X := X) (rd := rd) M hu op ta tb
  exact PE.mono (pe_cmpR ho ha hb hm) k
theorem tru_of (M : Γ.Mono) {te : TE} {Q : Bool → Hp → Prop} (h : trT Γ rd K te σ H Q) : trE Γ rd K te σ H fun x H1 => ∃ c, x = .bl c ∧ Q c H1 := by
  obtain ⟨pn, He, H0e, H0, env, fps, S, h⟩ := h
  refine trE_of M S h fun x o H1 H' v ex r q => ?_
  obtain ⟨b, e1, q⟩ := tru_bl r q
  exact ⟨b, e1, q _ _ ex⟩
theorem t_cmp (M : Γ.Mono) (hu : X.A.units + 64 < cLine) {op : COp} {a b : Expr} {pos : Pos} {ta tb : TE} (hm : behindInMarks (cOp op) b = false) (ha : PE X a (trE Γ rd X.K ta)) (hb : PE X b (trE Γ rd X.K tb)) : L2.PT X (.Compare a [cOp op] [b] pos) (trT Γ rd X.K (.cmp op ta tb)) := by
  obtain ⟨r, ho, k⟩ := cmp_rule (X := X) (rd := rd) M hu op ta tb
  exact PT.mono (pt_cmpR ho ha hb hm) fun σ H Q h => k _ _ _ (tru_of M h)
end
end PT

namespace PT
open PySem PySem.Spec PyProof.Rows L2
section
variable {c : Cfg} {n : Nat} {C : CXT} {X : Cx} {N : List Str} {sc : Scope}
variable {pn : List (Nat × V)} {K : PySem.W.Frag} {He H0e H0 H H0' H' H0'' H'' : Hp} {σ : L2.St} {env : Env} {fps : Nat → List Addr} {t : T} {v : V} {o : Og}
variable {Γ : Gam} {rd : Nat → Nat}
/-! ### and, or -/
def Alls (Γ : Gam) (rd : Nat → Nat) (X : Cx) : TEs → List Expr → Prop
  | .nil, l => l = []
  | .cons t ts, l => ∃ e r, l = e :: r ∧ PE X e (trE Γ rd X.K t) ∧ Alls Γ rd X ts r
def AllT (Γ : Gam) (rd : Nat → Nat) (X : Cx) : TEs → List Expr → Prop
  | .nil, l => l = []
  | .cons t ts, l => ∃ e r, l = e :: r ∧ L2.PT X e (trT Γ rd X.K t) ∧ AllT Γ rd X ts r
theorem s_bop (M : Γ.Mono) (and : Bool) {pos : Pos} : ∀ {ts : TEs} {es : List Expr} {a : Expr} {ta : TE}, PE X a (trE Γ rd X.K ta) → Alls Γ rd X ts es → PE X (.BoolOp (if and then .And else .Or) (a :: es) pos) (trE Γ rd X.K (.bop and ta ts))
  | .nil, es, a, ta, ha, h => by
    have e : es = [] := h
    subst e
    refine PE.mono (pe_one ha) fun σ H Q h => ?_
    obtain ⟨pn, He, H0e, H0, env, fps, S, h⟩ := h
    unfold wpE at h
    refine ⟨pn, He, H0e, H0, env, fps, S, wpE_mono M ta env _ _ (fun x o q => ?_) h⟩
    unfold wpB at q
    exact q
  | .cons t ts, es, a, ta, ha, h => by
    obtain ⟨e, r, e1, he, hr⟩ := h
    subst e1
    have ih := s_bop (pos := pos) M and he hr
    have key : ∀ {σ H Q}, trE Γ rd X.K (.bop and ta (.cons t ts)) σ H Q → trE Γ rd X.K ta σ H fun x H1 => ∃ c, x = .bl c ∧ if c = and then trE Γ rd X.K (.bop and t ts) σ H1 Q else Q (.bl c) H1 := fun {σ H Q} h => by
      obtain ⟨pn, He, H0e, H0, env, fps, S, h⟩ := h
      unfold wpE at h
      refine trE_of M S h fun x o H1 H' v ex r q => ?_
      unfold wpB at q
      obtain ⟨b, e1, q⟩ := tru_bl r q
      refine ⟨b, e1, ?_⟩
      by_cases z : b = and
      · rw [if_pos z] at q ⊢
        refine ⟨pn, He, H0e, H1, env, fps, S.mono ex, ?_⟩
        unfold wpE
        exact wpE_mono M t env _ _ (fun y o' q => wpB_mono M and ts env y o' _ _ (fun t o q H2 H'' w e2 r2 => q H2 H'' w (ex.trans e2) (r2.base ex.s)) q) q
      · rw [if_neg z] at q ⊢
        exact q _ _ _ ex VR.ofB
    cases and with
    | true =>
      refine PE.mono (pe_and ha ih) fun σ H Q h => ?_
      obtain ⟨pn, He, H0e, H0, env, fps, S, h⟩ := key h
      refine ⟨pn, He, H0e, H0, env, fps, S, wpE_mono M ta env _ _ (fun x o q H1 H' v ex r => ?_) h⟩
      obtain ⟨b, e1, q⟩ := q H1 H' v ex r
      refine ⟨b, e1, ?_⟩
      cases b
      · exact q
      · exact q
    | false =>
      refine PE.mono (pe_or ha ih) fun σ H Q h => ?_
      obtain ⟨pn, He, H0e, H0, env, fps, S, h⟩ := key h
      refine ⟨pn, He, H0e, H0, env, fps, S, wpE_mono M ta env _ _ (fun x o q H1 H' v ex r => ?_) h⟩
      obtain ⟨b, e1, q⟩ := q H1 H' v ex r
      refine ⟨b, e1, ?_⟩
      cases b
      · exact q
      · exact q
theorem t_bop (M : Γ.Mono) (and : Bool) {pos : Pos} : ∀ {ts : TEs} {es : List Expr} {a : Expr} {ta : TE}, L2.PT X a (trT Γ rd X.K ta) → AllT Γ rd X ts es → L2.PW X (.BoolOp (if and then .And else .Or) (a :: es) pos) (trT Γ rd X.K (.bop and ta ts))
  | .nil, es, a, ta, ha, h => by
    have e : es = [] := h
    subst e
    have key : ∀ {σ H Q}, trT Γ rd X.K (.bop and ta .nil) σ H Q → trT Γ rd X.K ta σ H Q := fun {σ H Q} h => by
      obtain ⟨pn, He, H0e, H0, env, fps, S, h⟩ := h
      unfold wpE at h
      refine ⟨pn, He, H0e, H0, env, fps, S, wpE_mono M ta env _ _ (fun x o q => ?_) h⟩
      unfold wpB at q
      exact q
    cases and with
    | true => exact PW.mono (pw_and1 ha) fun σ H Q h => key h
    | false => exact PW.mono (pw_or1 ha) fun σ H Q h => key h
  | .cons t ts, es, a, ta, ha, h => by
    obtain ⟨e, r, e1, he, hr⟩ := h
    subst e1
    have ih := t_bop (pos := pos) M and he hr
    have key : ∀ {σ H Q}, trT Γ rd X.K (.bop and ta (.cons t ts)) σ H Q → trT Γ rd X.K ta σ H fun c H1 => if c = and then trT Γ rd X.K (.bop and t ts) σ H1 Q else Q c H1 := fun {σ H Q} h => by
      obtain ⟨pn, He, H0e, H0, env, fps, S, h⟩ := h
      unfold wpE at h
      refine ⟨pn, He, H0e, H0, env, fps, S, wpE_mono M ta env _ _ (fun x o q => ?_) h⟩
      unfold wpB at q
      refine tru_mono (fun b q H1 H' ex => ?_) q
      by_cases z : b = and
      · rw [if_pos z] at q ⊢
        refine ⟨pn, He, H0e, H1, env, fps, S.mono ex, ?_⟩
        unfold wpE
        exact wpE_mono M t env _ _ (fun y o' q => wpB_mono M and ts env y o' _ _ (fun t o q => tru_mono (fun b q H2 H'' e2 => q H2 H'' (ex.trans e2)) q) q) q
      · rw [if_neg z] at q ⊢
        exact q _ _ ex
    cases and with
    | true =>
      refine PW.mono (pw_and ha ih) fun σ H Q h => ?_
      obtain ⟨pn, He, H0e, H0, env, fps, S, h⟩ := key h
      refine ⟨pn, He, H0e, H0, env, fps, S, wpE_mono M ta env _ _ (fun x o q => tru_mono (fun b q H1 H' ex => ?_) q) h⟩
      have q := q H1 H' ex
      cases b
      · exact q
      · exact q
    | false =>
      refine PW.mono (pw_or ha ih) fun σ H Q h => ?_
      obtain ⟨pn, He, H0e, H0, env, fps, S, h⟩ := key h
      refine ⟨pn, He, H0e, H0, env, fps, S, wpE_mono M ta env _ _ (fun x o q => tru_mono (fun b q H1 H' ex => ?_) q) h⟩
      have q := q H1 H' ex
      cases b
      · exact q
      · exact q
/-- the wish behind, moved to a later heap -/
theorem Wish.mv {Q : VK} (ex : Ext H0 H H0' H') : MQ (Wish K He H0 H Q) (Wish K He H0' H' Q) := fun t o q H2 H'' w e2 r2 => q H2 H'' w (ex.trans e2) (r2.base ex.s)
theorem s_ife (M : Γ.Mono) {ec ea eb : Expr} {pos : Pos} {tc ta tb : TE} (hc : L2.PT X ec (trT Γ rd X.K tc)) (ha : PE X ea (trE Γ rd X.K ta)) (hb : PE X eb (trE Γ rd X.K tb)) : PE X (.IfExp ec ea eb pos) (trE Γ rd X.K (.ife tc ta tb)) := by
  refine PE.mono (pe_ifExp hc ha hb) fun σ H Q h => ?_
  obtain ⟨pn, He, H0e, H0, env, fps, S, h⟩ := h
  unfold wpE at h
  refine trT_of M S h fun b H1 H' ex q => ?_
  cases b
  · exact ⟨pn, He, H0e, H1, env, fps, S.mono ex, wpE_mono M tb env _ _ (Wish.mv ex) q⟩
  · exact ⟨pn, He, H0e, H1, env, fps, S.mono ex, wpE_mono M ta env _ _ (Wish.mv ex) q⟩

/-! ### places, slices -/
theorem atI_reps {ts : List T} {vs : List V} {k : Int} {t : T} (r : Reps K H ts vs) (h : atI ts k = some t) : ∃ v, atI vs k = some v ∧ Rep K H t v := by
  unfold atI at h ⊢
  rw [reps_len r]
  cases q : ixN ts.length k with
  | none => rw [q] at h; cases h
  | some j =>
    rw [q] at h
    exact reps_get r h
theorem VR.item {ts : List T} {k : Int} (x : Ext H0 H H0' H') (r : VR K He H H0' H' o (.lst ts) v) (h : atI ts k = some t) : ∃ a vs w, v = .ref a ∧ H' a = some (.lst vs) ∧ atI vs k = some w ∧ VR K He H (PT.frzN H H0' H') H' o.item t w := by
  cases o with
  | fr d =>
    obtain ⟨f, a, b, c⟩ := r
    have q := own_rep (same_frzN x.le) d _ v f (fun y hy => frzN_new (c y hy).1) a
    unfold Rep at q
    obtain ⟨a, vs, e1, e2, e3⟩ := q
    obtain ⟨w, h1, h2⟩ := atI_reps e3 h
    exact ⟨a, vs, w, e1, frzN_same x.le _ _ e2, h1, VR.flat h2⟩
  | bor d =>
    obtain ⟨f, a, b⟩ := r
    cases d with
    | zero =>
      have q := a.2
      unfold Rep at q
      obtain ⟨a, vs, e1, e2, e3⟩ := q
      obtain ⟨w, h1, h2⟩ := atI_reps e3 h
      exact ⟨a, vs, w, e1, x.le _ _ e2, h1, VR.flat (rep_mono (same_frzN x.le) _ _ h2)⟩
    | succ d =>
      obtain ⟨a, vs, g, e1, e2, e3, o⟩ := a
      unfold atI at h ⊢
      cases q : ixN ts.length k with
      | none => rw [q] at h; cases h
      | some j =>
        rw [q] at h
        obtain ⟨w, f2, h1, h2, h3⟩ := o.get h
        refine ⟨a, vs, w, e1, e2, ?_, f2, own_imp (same_frzN x.le) d t w f2 (fun _ _ => rfl) h2, fun y hy => b y (e3 ▸ List.mem_cons_of_mem _ (h3 y hy))⟩
        rw [o.len, q]
        exact h1
theorem plainIx {b : Expr} (h : nsl b = true) : PlainIx b := fun o i => by
  cases b <;> first | rfl | cases h
theorem s_idx (M : Γ.Mono) {a b : Expr} {pos : Pos} {ta tb : TE} (hp : nsl b = true) (ha : PE X a (trE Γ rd X.K ta)) (hb : PE X b (trE Γ rd X.K tb)) : PE X (.Subscript a b pos) (trE Γ rd X.K (.idx ta tb)) := by
  refine PE.mono (pe_ix (ix_list.or ix_tup) ha hb (plainIx hp)) fun σ H Q h => ?_
  obtain ⟨pn, He, H0e, H0, env, fps, S, h⟩ := h
  unfold wpE at h
  refine two_of (k := fun x o y _ => idxT x o y _) M S h fun x o y o' H0' H' v w e r1 r2 q => ?_
  cases x with
  | lst xs =>
    cases y with
    | int k =>
      obtain ⟨t, h1, q⟩ := q
      obtain ⟨a, vs, w', e1, e2, e3, r3⟩ := r1.item e h1
      exact .inl ⟨a, vs, k, w', e1, r2.int, .inl (.inl e2), e3, q _ _ _ e.frzN r3⟩
    | _ => exact q.elim
  | tup xs =>
    cases y with
    | int k =>
      obtain ⟨t, h1, q⟩ := q
      obtain ⟨a, vs, e1, e2, e3⟩ := r1.tup
      obtain ⟨w', h2, h3⟩ := atI_reps e3 h1
      exact .inr ⟨a, vs, k, w', e1, r2.int, sqT_mono e.le e2, h2, q _ _ _ e (VR.flat h3)⟩
    | _ => exact q.elim
  | scr xs =>
    cases y with
    | int k =>
      obtain ⟨t, h1, q⟩ := q
      obtain ⟨a, e1, e2⟩ := r1.scr
      refine .inl ⟨a, _, k, .int t, e1, r2.int, sqL_mono e.le e2, ?_, q _ _ _ e VR.ofI⟩
      unfold atI at h1 ⊢
      rw [List.length_map]
      cases z : ixN xs.length k with
      | none => rw [z] at h1; cases h1
      | some j =>
        rw [z] at h1
        show (xs.map V.int)[j]? = _
        rw [List.getElem?_map]
        rw [show xs[j]? = some t from h1]
        rfl
    | _ => exact q.elim
  | _ => exact q.elim
def trO (Γ : Gam) (rd : Nat → Nat) (K : PySem.W.Frag) (e : TO) : L2.TO := fun σ H Q => ∃ pn He H0e H0 env fps, StR K pn He H0e H0 H σ env fps ∧ wpO Γ rd e env fun i => ∀ H0' H', Ext H0 H H0' H' → Q i H'
theorem s_onone : PO X none (trO Γ rd X.K .none) := by
  refine ⟨fun pins s σ H Q I h => po_none.run pins s σ H Q I ?_⟩
  obtain ⟨pn, He, H0e, H0, env, fps, S, h⟩ := h
  unfold wpO at h
  exact h _ _ (Ext.refl S.le)
theorem s_osome (M : Γ.Mono) {e : Expr} {te : TE} (he : PE X e (trE Γ rd X.K te)) : PO X (some e) (trO Γ rd X.K (.some te)) := by
  refine ⟨fun pins s σ H Q I h => (po_some he).run pins s σ H Q I ?_⟩
  obtain ⟨pn, He, H0e, H0, env, fps, S, h⟩ := h
  unfold wpO at h
  refine trE_of M S h fun x o H1 H' v ex r q => ?_
  cases x with
  | int i => exact ⟨i, r.int, q _ _ ex⟩
  | _ => exact q.elim
theorem cut_reps {ts : List T} {vs : List V} (r : Reps K H ts vs) (lo hi : Option Int) : Reps K H (cutT ts lo hi) (cutV vs lo hi) := by
  unfold cutT cutV
  rw [reps_len r]
  exact reps_take _ (reps_drop _ r)
theorem s_slc (M : Γ.Mono) {e : Expr} {lo hi : Option Expr} {pos p2 : Pos} {te : TE} {tl th : TO} (he : PE X e (trE Γ rd X.K te)) (hl : PO X lo (trO Γ rd X.K tl)) (hu : PO X hi (trO Γ rd X.K th)) : PE X (.Subscript e (.Slice lo hi none p2) pos) (trE Γ rd X.K (.slc te tl th)) := by
  refine PE.mono (pe_slice (sl_list.or sl_tupA) he hl hu) fun σ H Q h => ?_
  obtain ⟨pn, He, H0e, H0, env, fps, S, h⟩ := h
  unfold wpE at h
  refine trE_of M S h fun x o H1 H' v e1 r1 h1 => ?_
  refine ⟨pn, He, H0e, H1, env, fps, S.mono e1, wpO_mono M tl env _ _ (fun l q H2 H'' e2 => ?_) h1⟩
  refine ⟨pn, He, H0e, H2, env, fps, (S.mono e1).mono e2, wpO_mono M th env _ _ (fun u q H3 H3' e3 => ?_) q⟩
  cases x with
  | lst xs =>
    obtain ⟨s1, q⟩ := q
    have ex := (e1.trans e2).trans e3
    obtain ⟨a, vs, f1, f2, f3⟩ := ((r1.ext e2).ext e3).items ex (.inl s1)
    exact .inl ⟨a, vs, f1, .inl (.inl f2), fun p hp => q _ _ _ (ex.frzN.trans (Ext.new ex.frzN.le hp)) (VR.newL ex.frzN hp (cut_reps f3 l u))⟩
  | tup xs =>
    have ex := (e1.trans e2).trans e3
    have q : Wish X.K He H0 H Q (.tup (cutT xs l u)) (.bor 0) := q
    obtain ⟨a, vs, f1, f2, f3⟩ := ((r1.ext e2).ext e3).tup
    refine .inr ⟨a, vs, f1, sqT_mono ex.le f2, fun hw => ?_, fun _ p hp => ?_⟩
    · have e0 : cutT xs l u = xs := by
        unfold cutT
        rw [← reps_len f3, hw.1, hw.2]
        simp [reps_len f3]
      rw [e0] at q
      refine q _ _ _ ex (VR.flat ?_)
      unfold Rep
      exact ⟨a, vs, rfl, f2, f3⟩
    · refine q _ _ _ (ex.newF (o := .tup (cutV vs l u)) hp) (VR.flat ?_)
      unfold Rep
      exact ⟨p, _, rfl, .inl (.inl upd_same), reps_mono (PT.same_upd (ex.le.free hp)) _ _ (cut_reps f3 l u)⟩
  | _ => exact q.elim
/-! ### fields -/
theorem lookup_zip {H : Hp} : ∀ {ns : List Str} {ts : List T} {vs : List V} {f : Str} {t : T}, Reps K H ts vs → (ns.zip ts).lookup f = some t → ∃ v, (ns.zip vs).lookup f = some v ∧ Rep K H t v
  | [], ts, vs, f, t, _, h => by cases h
  | n :: ns, [], vs, f, t, _, h => by cases h
  | n :: ns, u :: ts, vs, f, t, r, h => by
    unfold Reps at r
    obtain ⟨v, r', e1, e2, e3⟩ := r
    subst e1
    show ∃ v_1, (match f == n with | true => some v | false => (ns.zip r').lookup f) = some v_1 ∧ _
    have h : (match f == n with | true => some u | false => (ns.zip ts).lookup f) = some t := h
    cases q : f == n with
    | true =>
      rw [q] at h
      cases h
      exact ⟨v, rfl, e2⟩
    | false =>
      rw [q] at h
      exact lookup_zip e3 h
theorem lookup_mem {α : Type} : ∀ {ns : List Str} {ts : List α} {f : Str} {t : α}, (ns.zip ts).lookup f = some t → f ∈ ns
  | [], ts, f, t, h => by cases h
  | n :: ns, [], f, t, h => by cases h
  | n :: ns, u :: ts, f, t, h => by
    have h : (match f == n with | true => some u | false => (ns.zip ts).lookup f) = some t := h
    cases q : f == n with
    | true => rw [beq_iff_eq.mp q]; exact List.mem_cons_self
    | false =>
      rw [q] at h
      exact List.mem_cons_of_mem _ (lookup_mem h)
theorem VR.ins {C : Str} {ns : List Str} {ts : List T} (r : VR K He H H0' H' o (.ins C ns ts) v) : Rep K H0' (.ins C ns ts) v := by
  cases o with
  | bor d =>
    obtain ⟨f, a, _⟩ := r
    exact (flat_own rfl a).2
  | fr d =>
    obtain ⟨f, a, _⟩ := r
    exact (flat_own rfl a).2
theorem s_fld (M : Γ.Mono) {e : Expr} {f : Str} {pos : Pos} {te : TE} (he : PE X e (trE Γ rd X.K te)) (hb : attributeBase e f X.env (eval e X.env) = eval e X.env) : PE X (.Attribute e f pos) (trE Γ rd X.K (.fld te f)) := by
  refine PE.mono (pe_fld he hb) fun σ H Q h => ?_
  obtain ⟨pn, He, H0e, H0, env, fps, S, h⟩ := h
  unfold wpE at h
  refine trE_of M S h fun x o H1 H' v ex r q => ?_
  cases x with
  | ins C ns ts =>
    obtain ⟨t, h1, h2⟩ := q
    have rr := r.ins
    unfold Rep at rr
    obtain ⟨a, dx, vs, e1, e2, e3, e4, e5⟩ := rr
    obtain ⟨w, h3, h4⟩ := lookup_zip e5 h1
    exact ⟨a, _, dx, _, w, e1, ex.le a _ e2, e4.cls, e4.no f (lookup_mem h1), h3, h2 _ _ _ ex (VR.flat h4)⟩
  | _ => exact q.elim
theorem s_fldS (M : Γ.Mono) {i : Nat} {x f : Str} {pos p : Pos} (G : Good c n C X N sc) (hi : N[i]? = some x) (hv : sc.names.lookup x = some .local ∨ sc.names.lookup x = some .cell ∨ sc.names.lookup x = some .free)
    (hd : (x == ("__debug__" : Str)) = false) (hc : (x == ("__classdict__" : Str)) = false) (hb : attributeBase (.Name x p) f X.env (eval (.Name x p) X.env) = eval (.Name x p) X.env) : PE X (.Attribute (.Name x p) f pos) (trE Γ rd X.K (.fldS i f)) := by
  refine PE.mono (pe_fld (pe_var (i := i) (by rw [G.hN]; exact hi) (G.vis hv) hd hc) hb) fun σ H Q h => ?_
  obtain ⟨pn, He, H0e, H0, env, fps, S, h⟩ := h
  unfold wpE fldS at h
  split at h
  · rename_i C ns ts e
    obtain ⟨t, h1, h2⟩ := h
    have q := S.slot i
    rw [e] at q
    obtain ⟨a, dx, vs, e1, e2, e3, e4, e5, e6⟩ := q
    obtain ⟨w, h3, h4⟩ := lookup_zip e6 h1
    exact ⟨.ref a, e2, a, _, dx, _, w, rfl, e3, e5.cls, e5.no f (lookup_mem h1), h3, h2 _ _ _ (Ext.refl S.le) (VR.flat h4)⟩
  · exact h.elim

/-! ### calls -/
theorem VRs.two (r : VRs K He H0' H' H [] []) : True := trivial
theorem callee {f : Nat} {d : Def} {dvs : List V} {dv : List T} {Q : VK} {vs : List V} {ts : List T} {R : T → Prop} (x : Ext H0 H H0' H') (r : Reps K H0' ts vs) (rdv : Reps K H0' dv dvs) (h : (gam c.tbl n f) (ts ++ dv) R)
    (hq : ∀ t v H2 H'' g, R t → Ext H0' H' H2 H'' → Own K H2 H'' d.rd t v g → g.Nodup → (∀ a ∈ g, H' a = none ∧ H2 a = none) → Q v H'') : spOf K (gam c.tbl n f) d.rd (vs ++ dvs) H' Q E0 :=
  ⟨H0', ts ++ dv, R, x.le, reps_append r rdv, h, hq⟩
theorem ogOf_VR {d : Nat} {g : List Addr} (x : Ext H0 H H0' H') (e2 : Ext H0' H' H0'' H'') (w : Own K H0'' H'' d t v g) (nd : g.Nodup) (fr : ∀ a ∈ g, H' a = none ∧ H0'' a = none) : VR K He H H0'' H'' (ogOf d) t v := by
  cases d with
  | zero => exact ⟨g, w, fun a ha => by
      rw [w.1] at ha
      cases ha⟩
  | succ d => exact ⟨g, w, nd, fun a ha => ⟨x.s.free (fr a ha).1, (fr a ha).2⟩⟩
theorem rdT_some {f : Nat} {d : Def} (h : c.tbl[f]? = some d) : rdT c.tbl f = d.rd := by
  unfold rdT
  rw [h]
theorem nil_starEach {env : PySem.Env} : starEach [] env = [] := by rfl
theorem any_star {env : PySem.Env} {pos : Pos} : ∀ {es : List Expr}, es.all nst = true → (backTo pos (starEach es env)).any (·.1) = false
  | [], _ => rfl
  | e :: es, h => by
    rw [List.all_cons, Bool.and_eq_true] at h
    have ih := any_star (env := env) (pos := pos) h.2
    have q : starEach (e :: es) env = (false, eval e env) :: starEach es env := by
      have h1 := h.1
      cases e <;> first | rfl | cases h1
    rw [q]
    show (false || (backTo pos (starEach es env)).any (·.1)) = false
    rw [ih]
    rfl
abbrev Plain (es : List Expr) : Prop := es.all nst = true
theorem flat_rep {t : T} (h : t.flat = true) (r : Rep K H t v) : Rep K H' t v := by
  cases t <;> first | exact absurd h Bool.false_ne_true | (unfold Rep at r ⊢; exact r)
mutual
theorem noL_rep {K : PySem.W.Frag} {H2 H3 : Hp} (h : ∀ a o, H2 a = some o → (∀ xs, o ≠ .lst xs) → H3 a = some o) : ∀ (t : T) (v : V), t.noL = true → Rep K H2 t v → Rep K H3 t v
  | .non, v, _, r => by unfold Rep at r ⊢; exact r
  | .bl b, v, _, r => by unfold Rep at r ⊢; exact r
  | .int i, v, _, r => by unfold Rep at r ⊢; exact r
  | .str x, v, _, r => by unfold Rep at r ⊢; exact r
  | .lst ts, v, n, r => by unfold T.noL at n; cases n
  | .scr ts, v, n, r => by unfold T.noL at n; cases n
  | .tup ts, v, n, r => by
    unfold T.noL at n
    unfold Rep at r ⊢
    obtain ⟨a, vs, e1, e2, e3⟩ := r
    refine ⟨a, vs, e1, ?_, noL_reps h ts vs n e3⟩
    rcases e2 with (e | ⟨o, e⟩) | e
    · exact .inl (.inl (h _ _ e fun xs z => by cases z))
    · exact .inl (.inr ⟨o, h _ _ e fun xs z => by cases z⟩)
    · exact .inr e
  | .ins C ns ts, v, n, r => by
    unfold T.noL at n
    unfold Rep at r ⊢
    obtain ⟨a, dx, vs, e1, e2, e3, e4, e5⟩ := r
    exact ⟨a, dx, vs, e1, h _ _ e2 (fun xs z => by cases z), e3, e4, noL_reps h ts vs n e5⟩
theorem noL_reps {K : PySem.W.Frag} {H2 H3 : Hp} (h : ∀ a o, H2 a = some o → (∀ xs, o ≠ .lst xs) → H3 a = some o) : ∀ (ts : List T) (vs : List V), T.noLs ts = true → Reps K H2 ts vs → Reps K H3 ts vs
  | [], vs, _, r => by unfold Reps at r ⊢; exact r
  | t :: ts, vs, n, r => by
    unfold T.noLs at n
    unfold Reps at r ⊢
    rw [Bool.and_eq_true] at n
    obtain ⟨v, r', e1, e2, e3⟩ := r
    exact ⟨v, r', e1, noL_rep h t v n.1 e2, noL_reps h ts r' n.2 e3⟩
end
theorem noL_lst {t : T} (h : t.noL = true) : t.isLst = false := by
  cases t <;> first | rfl | (unfold T.noL at h; cases h)
/-- the lists of one's own among arguments -/
theorem VRs.foot (le : Same H0' H') : ∀ {l : List (T × Og)} {vs : List V} {Hb : Hp}, VRs K He H0' H' Hb l vs → ∃ F : List Addr, (∀ a ∈ F, ∃ xs, H' a = some (.lst xs)) ∧ ∀ F' : List Addr, (∀ a ∈ F, a ∈ F') → Reps K (adj H0' H' F') (l.map (·.1)) vs
  | [], vs, Hb, r => ⟨[], (fun a ha => by cases ha), fun F' _ => by
    have e : vs = [] := r
    subst e
    exact reps_nil⟩
  | (t, o) :: l, vs, Hb, r => by
    obtain ⟨v, r, e, r1, Hm, sm, r2⟩ := r.head
    subst e
    obtain ⟨F, h1, h2⟩ := VRs.foot le r2
    have key : ∃ f d, Own K H0' H' d t v f := by
      cases o with
      | bor d => exact ⟨_, d, r1.choose_spec.1⟩
      | fr d => exact ⟨_, d, r1.choose_spec.1⟩
    obtain ⟨f, d, ow⟩ := key
    refine ⟨f ++ F, fun a ha => ?_, fun F' hF => reps_cons ?_ (h2 F' fun a ha => hF a (List.mem_append_right _ ha))⟩
    · rcases List.mem_append.mp ha with z | z
      · exact own_in d t v f ow a z
      · exact h1 a z
    · exact own_rep (same_adj le) d t v f (fun a ha => adj_in (hF a (List.mem_append_left _ ha))) ow
/-- f(e, ..) of the table -/
theorem call_key (M : Γ.Mono) (hΓ : Γ = gam c.tbl n) (hrd : rd = rdT c.tbl) {f : Nat} {d : Def} (hf : c.tbl[f]? = some d) {bw : Bool} {ts : TEs}
    : ∀ σ H Q, trE Γ rd K (.call f bw [] ts) σ H Q → tCall (spOf K (gam c.tbl n f) d.rd) [] E0 (trA Γ rd K ts) σ H Q := fun σ H Q h => by
    subst hΓ hrd
    obtain ⟨pn, He, H0e, H0, env, fps, S, h⟩ := h
    unfold wpE at h
    refine trA_of M S h fun l H1 H' vs x r q => ?_
    cases bw with
    | false =>
      obtain ⟨us, q1, q2⟩ := r.taken x (Same.refl _) q
      refine callee (H0 := H0) (H := H) x.frzN q2 reps_nil q1.go fun t v H2 H'' g hR e2 w nd fr => ?_
      have hR : Wish K He H0 H Q t (ogOf (rdT c.tbl f)) := hR
      rw [rdT_some hf] at hR
      exact hR _ _ _ (x.frzN.trans e2) (ogOf_VR x.frzN e2 w nd fr)
    | true =>
      have q1 : gam c.tbl n f (l.map (·.1) ++ []) fun t => flatIf true t (Wish K He H0 H Q t (ogOf (rdT c.tbl f))) := q.go
      obtain ⟨F, hF, q2⟩ := r.foot x.le
      have q2 := q2 F fun _ h => h
      have cs : Same (adj H1 H' F) H' := adj_same x.le
      refine callee (H0 := adj H1 H' F) (H := H') (Ext.refl cs) q2 reps_nil q1 fun t v H2 H'' g hR e2 w nd fr => ?_
      obtain ⟨hfl, hR⟩ := hR
      have nl := noL_lst hfl
      have fr2 := (flat_own nl w).2
      -- the frozen heap of the caller with what is new
      have fr3 : Rep K (fun a => if a ∈ F then H1 a else H2 a) t v := noL_rep (fun a ob he hn => by
        by_cases hm : a ∈ F
        · obtain ⟨xs, e⟩ := hF a hm
          have := e2.s0 a _ (show adj H1 H' F a = some (.lst xs) by rw [adj_in hm]; exact e)
          rw [this] at he
          cases he
          exact absurd rfl (hn xs)
        · rw [if_neg hm]; exact he) t v hfl fr2
      refine hR (fun a => if a ∈ F then H1 a else H2 a) H'' v ⟨x.s.trans e2.s, fun a ob he => ?_, fun a ob he => ?_, fun a ob he => ?_⟩ ?_
      · have := x.s0 a ob he
        by_cases hm : a ∈ F
        · rw [if_pos hm]; exact this
        · rw [if_neg hm]
          exact e2.s0 a ob (by rw [adj_out hm]; exact this)
      · by_cases hm : a ∈ F
        · rw [if_pos hm] at he
          exact e2.s a ob (x.le a ob he)
        · rw [if_neg hm] at he
          exact e2.le a ob he
      · by_cases hm : a ∈ F
        · rw [if_pos hm]; exact x.nw a ob he
        · rw [if_neg hm]
          exact (e2.nw a ob (x.s a ob he)).trans ((adj_out hm).trans (x.nw a ob he))
      rw [rdT_some hf]
      cases hd : d.rd with
      | zero => exact ⟨[], ⟨rfl, fr3⟩, fun a ha => by cases ha⟩
      | succ k => exact ⟨[], own_flat nl fr3, .nil, fun a ha => by cases ha⟩
theorem s_call (M : Γ.Mono) (G : Good c n C X N sc) (hΓ : Γ = gam c.tbl n) (hrd : rd = rdT c.tbl) {f : Nat} {d : Def} (hf : c.tbl[f]? = some d) (hni : d.ini = none) (hng : d.isG = false) (hno : d.own = none) {bw : Bool} {e : Expr} {es : List Expr} {ts : TEs} {p pos : Pos} (hg : sc.names.lookup d.name = some .globalImplicit) (hdb : (d.name == ("__debug__" : Str)) = false)
    (hp : Plain (e :: es)) (hs : PA X (e :: es) (trA Γ rd X.K ts)) : PE X (.Call (.Name d.name p) (e :: es) [] pos) (trE Γ rd X.K (.call f bw [] ts)) := by
  obtain ⟨a, fd, hm, hk, F, hb, _⟩ := G.fns f d hf hni hng hno
  have B : Binds X.K fd d.ps [] := Binds.all hb
  have hp2 := hp
  unfold Plain at hp2
  rw [List.all_cons, Bool.and_eq_true] at hp2
  have h1 := hp2.1
  exact PE.mono (pe_call F (G.room.mono (Nat.le_succ _)) (G.gl hg) hm hk B .nil (G.pass X rfl rfl) hs hdb (by cases e <;> first | rfl | cases h1) (any_star hp2.2)) (call_key M hΓ hrd hf)
theorem s_call0 (M : Γ.Mono) (G : Good c n C X N sc) (hΓ : Γ = gam c.tbl n) (hrd : rd = rdT c.tbl) {f : Nat} {d : Def} (hf : c.tbl[f]? = some d) (hni : d.ini = none) (hng : d.isG = false) (hno : d.own = none) {bw : Bool} {p pos : Pos} (hg : sc.names.lookup d.name = some .globalImplicit) (hdb : (d.name == ("__debug__" : Str)) = false)
    : PE X (.Call (.Name d.name p) [] [] pos) (trE Γ rd X.K (.call f bw [] .nil)) := by
  obtain ⟨a, fd, hm, hk, F, hb, _⟩ := G.fns f d hf hni hng hno
  have B : Binds X.K fd d.ps [] := Binds.all hb
  refine PE.mono (pe_call0 F (G.room.mono (Nat.le_succ _)) (G.gl hg) hm hk B .nil (G.pass X rfl rfl) hdb) fun σ H Q h => ?_
  obtain ⟨pn, He, H0e, H0, env, fps, S, h⟩ := call_key M hΓ hrd hf σ H Q h
  unfold wpEs at h
  exact h H0 H [] (Ext.refl S.le) rfl
theorem owns0_noL {K : PySem.W.Frag} {H2 H3 H' : Hp} (h : ∀ a o, H2 a = some o → (∀ xs, o ≠ .lst xs) → H3 a = some o) : ∀ (ts : List T) (vs : List V) (f : List Addr), T.noLs ts = true → Owns (Own K H2 H' 0) ts vs f → Owns (Own K H3 H' 0) ts vs f
  | [], vs, f, _, o => o
  | t :: ts, vs, f, n, o => by
    unfold T.noLs at n
    rw [Bool.and_eq_true] at n
    obtain ⟨v, r, f1, f2, e1, e2, p, o⟩ := o
    exact ⟨v, r, f1, f2, e1, e2, ⟨p.1, noL_rep h t v n.1 p.2⟩, owns0_noL h ts r f2 n.2 o⟩
/-- f(e, ..) whose arguments are lent, and which makes a new list -/
theorem callB_key (M : Γ.Mono) (hΓ : Γ = gam c.tbl n) (hrd : rd = rdT c.tbl) {f : Nat} {d : Def} (hf : c.tbl[f]? = some d) (h1 : d.rd = 1) {ts : TEs}
    : ∀ σ H Q, trE Γ rd K (.callB f ts) σ H Q → tCall (spOf K (gam c.tbl n f) d.rd) [] E0 (trA Γ rd K ts) σ H Q := fun σ H Q h => by
    subst hΓ hrd
    obtain ⟨pn, He, H0e, H0, env, fps, S, h⟩ := h
    unfold wpE at h
    refine trA_of M S h fun l H1 H' vs x r q => ?_
    have q1 : gam c.tbl n f (l.map (·.1) ++ []) fun t => t.noL1 = true ∧ Wish K He H0 H Q t (.fr 1) := by rw [List.append_nil]; exact q.go
    obtain ⟨F, hF, q2⟩ := r.foot x.le
    have q2 := q2 F fun _ h => h
    have cs : Same (adj H1 H' F) H' := adj_same x.le
    refine callee (H0 := adj H1 H' F) (H := H') (Ext.refl cs) q2 reps_nil q1 fun t v H2 H'' g hR e2 w nd fr => ?_
    obtain ⟨hfl, hR⟩ := hR
    have sub : ∀ a o, H2 a = some o → (∀ xs, o ≠ .lst xs) → (fun a => if a ∈ F then H1 a else H2 a) a = some o := fun a ob he hn => by
      by_cases hm : a ∈ F
      · obtain ⟨xs, e⟩ := hF a hm
        have := e2.s0 a _ (show adj H1 H' F a = some (.lst xs) by rw [adj_in hm]; exact e)
        rw [this] at he
        cases he
        exact absurd rfl (hn xs)
      · show (if a ∈ F then H1 a else H2 a) = _
        rw [if_neg hm]; exact he
    refine hR (fun a => if a ∈ F then H1 a else H2 a) H'' v ⟨x.s.trans e2.s, fun a ob he => ?_, fun a ob he => ?_, fun a ob he => ?_⟩ ?_
    · have := x.s0 a ob he
      by_cases hm : a ∈ F
      · rw [if_pos hm]; exact this
      · rw [if_neg hm]
        exact e2.s0 a ob (by rw [adj_out hm]; exact this)
    · by_cases hm : a ∈ F
      · rw [if_pos hm] at he
        exact e2.s a ob (x.le a ob he)
      · rw [if_neg hm] at he
        exact e2.le a ob he
    · by_cases hm : a ∈ F
      · rw [if_pos hm]; exact x.nw a ob he
      · rw [if_neg hm]
        exact (e2.nw a ob (x.s a ob he)).trans ((adj_out hm).trans (x.nw a ob he))
    cases t with
    | lst ts =>
      rw [h1] at w
      obtain ⟨a, us, g2, e3, e4, e5, ow⟩ := w
      refine ⟨g, ⟨a, us, g2, e3, e4, e5, owns0_noL sub ts us g2 hfl ow⟩, nd, fun b hb => ⟨x.s.free (fr b hb).1, ?_⟩⟩
      have hm : b ∉ F := fun m => by
        obtain ⟨xs, e⟩ := hF b m
        rw [(fr b hb).1] at e
        cases e
      show (if b ∈ F then H1 b else H2 b) = none
      rw [if_neg hm]
      exact (fr b hb).2
    | _ => cases hfl
theorem s_callB (M : Γ.Mono) (G : Good c n C X N sc) (hΓ : Γ = gam c.tbl n) (hrd : rd = rdT c.tbl) {f : Nat} {d : Def} (hf : c.tbl[f]? = some d) (hni : d.ini = none) (hng : d.isG = false) (hno : d.own = none) (hr1 : d.rd = 1) {e : Expr} {es : List Expr} {ts : TEs} {p pos : Pos} (hg : sc.names.lookup d.name = some .globalImplicit) (hdb : (d.name == ("__debug__" : Str)) = false)
    (hp : Plain (e :: es)) (hs : PA X (e :: es) (trA Γ rd X.K ts)) : PE X (.Call (.Name d.name p) (e :: es) [] pos) (trE Γ rd X.K (.callB f ts)) := by
  obtain ⟨a, fd, hm, hk, F, hb, _⟩ := G.fns f d hf hni hng hno
  have B : Binds X.K fd d.ps [] := Binds.all hb
  have hp2 := hp
  unfold Plain at hp2
  rw [List.all_cons, Bool.and_eq_true] at hp2
  have h1 := hp2.1
  exact PE.mono (pe_call F (G.room.mono (Nat.le_succ _)) (G.gl hg) hm hk B .nil (G.pass X rfl rfl) hs hdb (by cases e <;> first | rfl | cases h1) (any_star hp2.2)) (callB_key M hΓ hrd hf hr1)
/-- f(e, ..) of a def to which an argument is given away -/
theorem callO_key (M : Γ.Mono) (hΓ : Γ = gam c.tbl n) (hrd : rd = rdT c.tbl) {f p dp : Nat} {d : Def} (hf : c.tbl[f]? = some d) {ts : TEs}
    : ∀ σ H Q, trE Γ rd K (.callO f p dp ts) σ H Q → tCall (spOw K (gam c.tbl n f) d.rd p dp) [] E0 (trA Γ rd K ts) σ H Q := fun σ H Q h => by
    subst hΓ hrd
    obtain ⟨pn, He, H0e, H0, env, fps, S, h⟩ := h
    unfold wpE at h
    refine trA_of M S h fun l H1 H' vs x r q => ?_
    obtain ⟨us, F, q1, ar, lt, nd, fr⟩ := r.takenO x (Same.refl _) q
    have sm : Same H fun a => if a ∈ F then none else H' a := fun a o e => by
      have : a ∉ F := fun m => by rw [(fr a m).1] at e; cases e
      show (if a ∈ F then none else H' a) = some o
      rw [if_neg this]
      exact x.s a o e
    have s0 : Same H1 fun a => if a ∈ F then none else H' a := fun a o e => by
      have : a ∉ F := fun m => by rw [(fr a m).2] at e; cases e
      show (if a ∈ F then none else H' a) = some o
      rw [if_neg this]
      exact x.le a o e
    rw [List.append_nil]
    refine ⟨H1, fun a => if a ∈ F then none else H' a, us, _, F, fun a o e => ?_, s0, ar, lt, nd, fun a m => if_pos m, q1.go, fun t v H2 H'' g hR e2 w nd2 fr2 => ?_⟩
    · have e : (if a ∈ F then none else H' a) = some o := e
      by_cases m : a ∈ F
      · rw [if_pos m] at e; cases e
      · rw [if_neg m] at e; exact e
    · have hR : Wish K He H0 H Q t (ogOf (rdT c.tbl f)) := hR
      rw [rdT_some hf] at hR
      refine hR _ _ _ ⟨sm.trans e2.s, x.s0.trans e2.s0, e2.le, fun a o e => (e2.nw a o (sm a o e)).trans (x.nw a o e)⟩ ?_
      cases hd : d.rd with
      | zero =>
        rw [hd] at w
        exact ⟨g, w, fun a ha => by
          rw [w.1] at ha
          cases ha⟩
      | succ k =>
        rw [hd] at w
        exact ⟨g, w, nd2, fun a ha => ⟨sm.free (fr2 a ha).1, (fr2 a ha).2⟩⟩
theorem s_callO (M : Γ.Mono) (G : Good c n C X N sc) (hΓ : Γ = gam c.tbl n) (hrd : rd = rdT c.tbl) {f ix dp : Nat} {d : Def} (hf : c.tbl[f]? = some d) (hni : d.ini = none) (hng : d.isG = false) (ho : d.own = some (ix, dp)) {e : Expr} {es : List Expr} {ts : TEs} {p pos : Pos} (hg : sc.names.lookup d.name = some .globalImplicit) (hdb : (d.name == ("__debug__" : Str)) = false)
    (hp : Plain (e :: es)) (hs : PA X (e :: es) (trA Γ rd X.K ts)) : PE X (.Call (.Name d.name p) (e :: es) [] pos) (trE Γ rd X.K (.callO f ix dp ts)) := by
  obtain ⟨a, fd, hm, hk, F, hb⟩ := G.ows f d ix dp hf hni hng ho
  have B : Binds X.K fd d.ps [] := Binds.all hb
  have hp2 := hp
  unfold Plain at hp2
  rw [List.all_cons, Bool.and_eq_true] at hp2
  have h1 := hp2.1
  exact PE.mono (pe_call F (G.room.mono (Nat.le_succ _)) (G.gl hg) hm hk B .nil (G.pass X rfl rfl) hs hdb (by cases e <;> first | rfl | cases h1) (any_star hp2.2)) (callO_key M hΓ hrd hf)
/-! ### C(..) -/
theorem make_key {D : Str} {d : Def} {f : Nat} {us : List T} {vs : List V} {Q : VK} (hf : c.tbl[f]? = some d) (hini : d.ini = some D) (x : Ext H0 H H0' H') (r : Reps K H0' us vs) (ok : ClsOk K D []) (h : gam c.tbl n f us fun t => Wish K He H0 H Q t (ogOf (rdT c.tbl f))) :
    ∀ p dx, H' p = none → H' dx = none → dx ≠ p → spI K D (gam c.tbl n f) (.ref p :: vs) (upd (upd H' dx (.own p)) p (.ins (gaC K D) dx [])) (fun v H2 => v = .non ∧ Q (.ref p) H2) E0 := fun p dx hp hdx hne => by
  have hrd : rdT c.tbl f = 0 := by
    cases n with
    | zero => exact h.elim
    | succ n =>
      unfold gam at h
      simp only [hf, hini] at h
      rw [rdT_some hf]
      exact h.1
  rw [hrd] at h
  have le1 : Same H' (upd H' dx (.own p)) := PT.same_upd hdx
  have pn : upd H' dx (.own p) p = none := by rw [upd_ne (Ne.symm hne)]; exact hp
  refine ⟨p, dx, vs, H0', upd H' dx (.own p), us, _, rfl, upd_same, fun b hb => (upd_ne hb).symm, pn, x.le.trans le1, r, ok, h, fun ns ws vs' dx' H2 H'' hQ e2 hi h0 hl okn rr => ⟨rfl, ?_⟩⟩
  have hQ : Wish K He H0 H Q (.ins D ns ws) (.bor 0) := hQ
  refine hQ (upd H2 p (.ins (gaC K D) dx' (ns.zip vs'))) H'' (.ref p) (x.trans ⟨le1.trans e2.s, fun a ob he => ?_, fun a ob he => ?_, fun a ob he => ?_⟩) ⟨[], ⟨rfl, ?_⟩, fun a ha => by cases ha⟩
  · exact PT.same_upd h0 a ob (e2.s0 a ob he)
  · by_cases hm : a = p
    · subst hm; rw [upd_same] at he; rw [← he]; exact hi
    · rw [upd_ne hm] at he; exact e2.le a ob he
  · have hm : a ≠ p := fun z => by rw [z, hp] at he; cases he
    rw [upd_ne hm]
    exact e2.nw a ob (le1 a ob he)
  · unfold Rep
    exact ⟨p, dx', vs', rfl, upd_same, hl, okn, reps_mono (PT.same_upd h0) ws vs' rr⟩
theorem s_make (M : Γ.Mono) (G : Good c n C X N sc) (hΓ : Γ = gam c.tbl n) (hrd : rd = rdT c.tbl) {f : Nat} {d : Def} {D : Str} (hf : c.tbl[f]? = some d) (hini : d.ini = some D) {fl : List Str} (hc : (D, fl) ∈ c.cls) {e : Expr} {es : List Expr} {ts : TEs} {p pos : Pos} (hg : sc.names.lookup d.name = some .globalImplicit) (hdb : (d.name == ("__debug__" : Str)) = false)
    (hp : Plain (e :: es)) (hs : PA X (e :: es) (trA Γ rd X.K ts)) : PE X (.Call (.Name d.name p) (e :: es) [] pos) (trE Γ rd X.K (.call f false [] ts)) := by
  obtain ⟨a, fd, s, hm, Mk', F, hb, _⟩ := G.inis f d D hf hini
  have ok := (G.cls _ hc).2.1
  have B : Binds X.K fd (s :: d.ps) [] := Binds.all fun us hl => hb us (by simpa using hl)
  have hp2 := hp
  unfold Plain at hp2
  rw [List.all_cons, Bool.and_eq_true] at hp2
  have h1 := hp2.1
  refine PE.mono (pe_make Mk' F G.room (G.gl hg) hm B .nil (G.pass X rfl rfl) hs hdb (by cases e <;> first | rfl | cases h1) (any_star hp2.2)) fun σ H Q h => ?_
  subst hΓ hrd
  obtain ⟨pn, He, H0e, H0, env, fps, S, h⟩ := h
  unfold wpE at h
  refine trA_of M S h fun l H1 H' vs x r q => ?_
  obtain ⟨us, q1, q2⟩ := r.taken x (Same.refl _) q
  rw [List.append_nil]
  exact make_key (He := He) hf hini x.frzN q2 ⟨ok.cls, (fun f hf => by cases hf), ok.ca, ok.cg, ok.ct, ok.cm, ok.kb⟩ (by have := q1.go; rw [List.append_nil] at this; exact this)
end
end PT

namespace PT
open PySem PySem.Spec PyProof.Rows L2
/-! ### max, min, sum of a tuple of ints -/
section
variable {prog : Program} {w : World} {A : Around} {E : Value → Shared → Prop} {s : Shared} {l : Addr} {its : List Value} {ns : List Int} {Q : Value → Shared → Prop}
theorem iter_tup {items : Array Value} {Q : Value → Shared → Prop} (hl : s.heap.IsTuple l items)
    (h : ∀ s₂ : Shared, s₂ = { s with heap := s.heap.push { cls := .type "tuple_iterator", data := .fields #[.ref l, .int 0 0] } } →
      (s₂.heap.IsTupleIter s.heap.objs.size l 0 ∧ s₂.heap.IsTuple l items) → (∀ b ∈ [s.heap.objs.size, l], b < s₂.heap.objs.size) → l ≠ s.heap.objs.size → Q (.ref s.heap.objs.size) s₂) :
    wpAny (model prog w) A (pyIter (.ref l)) Q E s := by
  have hlt : l < s.heap.objs.size := by obtain ⟨_, e, _⟩ := hl; exact Heap.lt_size e
  refine wpAny_pyIter_tuple hl (h _ rfl ⟨⟨_, Heap.get?_push_size _ rfl, rfl, rfl⟩, ?_⟩ (fun b hb => ?_) (Nat.ne_of_lt hlt))
  · exact hl.at fun o e => Heap.get?_push_of_some _ e
  · show b < (s.heap.push _).objs.size
    rw [Heap.size_push]
    rcases List.mem_cons.mp hb with rfl | hb
    · exact Nat.lt_succ_self _
    · rcases List.mem_cons.mp hb with rfl | hb
      · exact Nat.lt_succ_of_lt hlt
      · cases hb
theorem kept_tup {h' : Heap} (hk : ∀ b o, b ∉ [s.heap.objs.size] → (s.heap.push { cls := .type "tuple_iterator", data := .fields #[.ref l, .int 0 0] }).get? b = some o → h'.get? b = some o) :
    ∀ b o, s.heap.get? b = some o → h'.get? b = some o := fun b o e => by
  refine hk b o (fun hm => ?_) (Heap.get?_push_of_some _ e)
  rcases List.mem_cons.mp hm with e1 | hm
  · exact absurd (e1 ▸ Heap.lt_size e) (Nat.lt_irrefl _)
  · cases hm
theorem sum_tup (hh : A.handled = none) (hl : s.heap.IsTuple l its.toArray) (hi : IntsAre its ns)
    (h : ∀ h' tk t', (∀ b o, s.heap.get? b = some o → h'.get? b = some o) → Q (.int ns.sum t') { s with heap := h', toks := tk }) : wpAny (model prog w) A (call (.builtin "sum") [.ref l]) Q E s := by
  obtain ⟨xs, e⟩ := hi.allInts.items
  have hn : numsOf (intItems xs).toList = ns := by rw [← e]; exact hi.numsOf
  rw [nums_intItems] at hn
  rw [e] at hl
  refine call_sum_walkG (iter_tup hl fun s₂ e st hfp hlI => ?_)
  subst e
  refine ⟨_, _, _, _, _, _, numAt xs, rfl, Walks.tuple (A := A.in1) hh _ l hlI (intItems xs), st, hfp, (fun _ _ => intItems_at), fun h' tk t' hk => ?_⟩
  have := h h' tk t' (kept_tup hk)
  have e2 : preSum (numAt xs) xs.size = ns.sum := by rw [preSum_eq, List.take_of_length_le (by simp), hn]
  rw [← e2] at this
  simpa [intItems] using this
theorem max_tup (hh : A.handled = none) (hl : s.heap.IsTuple l its.toArray) (hi : IntsAre its ns) (hne : 0 < ns.length)
    (h : ∀ h' tk M t', (∀ b o, s.heap.get? b = some o → h'.get? b = some o) → M ∈ ns → (∀ a, a ∈ ns → a ≤ M) → Q (.int M t') { s with heap := h', toks := tk }) : wpAny (model prog w) A (call (.builtin "max") [.ref l]) Q E s := by
  obtain ⟨xs, e⟩ := hi.allInts.items
  have hn : numsOf (intItems xs).toList = ns := by rw [← e]; exact hi.numsOf
  rw [nums_intItems] at hn
  subst hn
  rw [e] at hl
  have hsz : 0 < xs.size := by simpa using hne
  refine call_max_walk (iter_tup hl fun s₂ e st hfp hlI => ?_)
  subst e
  refine ⟨_, _, _, _, _, _, _, rfl, Walks.tuple (A := A.in1) hh _ l hlI (intItems xs), st, hfp, by simpa [intItems] using hsz, CmpOf.ints_gt (numAt xs) (fun _ _ => intItems_at), fun v h' tk hv hk => ?_⟩
  have hv : (intItems xs)[argBest (fun i j => decide (numAt xs i > numAt xs j)) (xs.size - 1)]? = some v := by simpa [intItems] using hv
  obtain ⟨t, rfl⟩ := intItems_at hv
  obtain ⟨h1, h2⟩ := argBest_gt (numAt xs) (xs.size - 1)
  refine h h' tk _ t (kept_tup hk) ?_ fun a ha => ?_
  · rw [numAt_eq]; exact PySem.getD_mem (by rw [List.length_map, Array.length_toList]; omega)
  · obtain ⟨j, hj, rfl⟩ := mem_getD ha
    rw [List.length_map, Array.length_toList] at hj
    rw [← numAt_eq]; exact h2 j (by omega)
theorem min_tup (hh : A.handled = none) (hl : s.heap.IsTuple l its.toArray) (hi : IntsAre its ns) (hne : 0 < ns.length)
    (h : ∀ h' tk M t', (∀ b o, s.heap.get? b = some o → h'.get? b = some o) → M ∈ ns → (∀ a, a ∈ ns → M ≤ a) → Q (.int M t') { s with heap := h', toks := tk }) : wpAny (model prog w) A (call (.builtin "min") [.ref l]) Q E s := by
  obtain ⟨xs, e⟩ := hi.allInts.items
  have hn : numsOf (intItems xs).toList = ns := by rw [← e]; exact hi.numsOf
  rw [nums_intItems] at hn
  subst hn
  rw [e] at hl
  have hsz : 0 < xs.size := by simpa using hne
  refine call_min_walk (iter_tup hl fun s₂ e st hfp hlI => ?_)
  subst e
  refine ⟨_, _, _, _, _, _, _, rfl, Walks.tuple (A := A.in1) hh _ l hlI (intItems xs), st, hfp, by simpa [intItems] using hsz, CmpOf.ints_lt (numAt xs) (fun _ _ => intItems_at), fun v h' tk hv hk => ?_⟩
  have hv : (intItems xs)[argBest (fun i j => decide (numAt xs i < numAt xs j)) (xs.size - 1)]? = some v := by simpa [intItems] using hv
  obtain ⟨t, rfl⟩ := intItems_at hv
  obtain ⟨h1, h2⟩ := argBest_lt (numAt xs) (xs.size - 1)
  refine h h' tk _ t (kept_tup hk) ?_ fun a ha => ?_
  · rw [numAt_eq]; exact PySem.getD_mem (by rw [List.length_map, Array.length_toList]; omega)
  · obtain ⟨j, hj, rfl⟩ := mem_getD ha
    rw [List.length_map, Array.length_toList] at hj
    rw [← numAt_eq]; exact h2 j (by omega)
end
section
variable {X : Cx}
def rSumT (K : PySem.W.Frag) : List V → Hp → VK → Prop := fun vs H Q => ∃ (a : Addr) (ns : List Int), vs = [V.ref a] ∧ SqT K H a (ns.map V.int) ∧ Q (.int ns.sum) H
def rMaxT (K : PySem.W.Frag) : List V → Hp → VK → Prop := fun vs H Q => ∃ (a : Addr) (ns : List Int), vs = [V.ref a] ∧ SqT K H a (ns.map V.int) ∧ 0 < ns.length ∧ ∀ m, m ∈ ns → (∀ y, y ∈ ns → y ≤ m) → Q (.int m) H
def rMinT (K : PySem.W.Frag) : List V → Hp → VK → Prop := fun vs H Q => ∃ (a : Addr) (ns : List Int), vs = [V.ref a] ∧ SqT K H a (ns.map V.int) ∧ 0 < ns.length ∧ ∀ m, m ∈ ns → (∀ y, y ∈ ns → m ≤ y) → Q (.int m) H
theorem cr_sumT (hc : X.calm = true) : CallR X (.builtin "sum") (rSumT X.K) := by
  intro pins s σ H vs us Q I r h
  obtain ⟨a, ns, rfl, hs, q⟩ := h
  obtain ⟨its, rv, hl, _⟩ := I.tuple hs
  rw [Vals.ref1 r]
  exact sum_tup (I.ok.hd hc) hl rv.ints fun h' tk t' hk => ⟨.int _, H, I.kept hk, ⟨_, rfl⟩, q⟩
theorem cr_maxT (hc : X.calm = true) : CallR X (.builtin "max") (rMaxT X.K) := by
  intro pins s σ H vs us Q I r h
  obtain ⟨a, ns, rfl, hs, hne, q⟩ := h
  obtain ⟨its, rv, hl, _⟩ := I.tuple hs
  rw [Vals.ref1 r]
  exact max_tup (I.ok.hd hc) hl rv.ints hne fun h' tk m t' hk h1 h2 => ⟨.int _, H, I.kept hk, ⟨_, rfl⟩, q m h1 h2⟩
theorem cr_minT (hc : X.calm = true) : CallR X (.builtin "min") (rMinT X.K) := by
  intro pins s σ H vs us Q I r h
  obtain ⟨a, ns, rfl, hs, hne, q⟩ := h
  obtain ⟨its, rv, hl, _⟩ := I.tuple hs
  rw [Vals.ref1 r]
  exact min_tup (I.ok.hd hc) hl rv.ints hne fun h' tk m t' hk h1 h2 => ⟨.int _, H, I.kept hk, ⟨_, rfl⟩, q m h1 h2⟩
end
end PT

namespace PT
open PySem PySem.Spec PyProof.Rows L2
section
variable {c : Cfg} {n : Nat} {C : CXT} {X : Cx} {N : List Str} {sc : Scope}
variable {pn : List (Nat × V)} {K : PySem.W.Frag} {He H0e H0 H H0' H' H0'' H'' : Hp} {σ : L2.St} {env : Env} {fps : Nat → List Addr} {t : T} {v : V} {o : Og}
variable {Γ : Gam} {rd : Nat → Nat}
theorem VRs.one (r : VRs K He H0' H' H [(t, o)] vs) : ∃ v, vs = [v] ∧ VR K He H H0' H' o t v := by
  obtain ⟨v, r, e, r1, Hm, sm, r2⟩ := r.head
  have e2 : r = [] := r2
  subst e2
  exact ⟨v, e, r1⟩
theorem VRs.pair {u : T} {p : Og} (r : VRs K He H0' H' H [(t, o), (u, p)] vs) : ∃ v w, vs = [v, w] ∧ VR K He H H0' H' o t v ∧ VR K He H H0' H' p u w := by
  obtain ⟨v, r, e, r1, Hm, sm, r2⟩ := r.head
  obtain ⟨w, e2, r3⟩ := r2.one
  subst e2
  exact ⟨v, w, e, r1, r3.base sm⟩
theorem reps_iL : ∀ {l : List Int} {vs : List V}, Reps K H (iL l) vs → vs = l.map V.int
  | [], vs, h => by
    unfold Reps at h
    exact h
  | i :: l, vs, h => by
    have h : Reps K H (.int i :: iL l) vs := h
    unfold Reps at h
    obtain ⟨v, r, e1, e2, e3⟩ := h
    unfold Rep at e2
    rw [e1, e2, reps_iL e3]
    rfl
theorem iL_reps : ∀ {l : List Int}, Reps K H (iL l) (l.map V.int)
  | [] => reps_nil
  | i :: l => reps_cons (by unfold Rep; rfl) iL_reps
theorem reps_bL : ∀ {l : List Bool} {vs : List V}, Reps K H (bL l) vs → vs = l.map V.bl
  | [], vs, h => by
    unfold Reps at h
    exact h
  | i :: l, vs, h => by
    have h : Reps K H (.bl i :: bL l) vs := h
    unfold Reps at h
    obtain ⟨v, r, e1, e2, e3⟩ := h
    unfold Rep at e2
    rw [e1, e2, reps_bL e3]
    rfl
theorem VR.ints {l : List Int} (le : Same H0' H') (r : VR K He H H0' H' o (.lst (iL l)) v) : ∃ a, v = .ref a ∧ SqL K H' a (l.map V.int) := by
  obtain ⟨a, vs, e1, e2, e3⟩ := r.lst le
  have e4 := reps_iL e3
  subst e4
  exact ⟨a, e1, .inl (.inl e2)⟩
theorem VR.intsT {l : List Int} (r : VR K He H H0' H' o (.tup (iL l)) v) : ∃ a, v = .ref a ∧ SqT K H0' a (l.map V.int) := by
  obtain ⟨a, vs, e1, e2, e3⟩ := r.tup
  have e4 := reps_iL e3
  subst e4
  exact ⟨a, e1, e2⟩
theorem VR.bools {l : List Bool} (le : Same H0' H') (r : VR K He H H0' H' o (.lst (bL l)) v) : ∃ a, v = .ref a ∧ SqL K H' a (l.map V.bl) := by
  obtain ⟨a, vs, e1, e2, e3⟩ := r.lst le
  have e4 := reps_bL e3
  subst e4
  exact ⟨a, e1, .inl (.inl e2)⟩
def bltS : Blt → Str
  | .len => "len"
  | .abs => "abs"
  | .max => "max"
  | .min => "min"
  | .sum => "sum"
  | .int => "int"
  | .tuple => "tuple"
  | .list => "list"
  | .all => "all"
  | .any => "any"
theorem bltS_mem (f : Blt) : bltS f ∈ bltN := by cases f <;> decide +kernel
theorem bltS_dbg (f : Blt) : (bltS f == ("__debug__" : Str)) = false := by cases f <;> decide +kernel
theorem bltS_nm (f : Blt) : bltS f ≠ "__name__" := by cases f <;> decide +kernel
theorem blt_pre (M : Γ.Mono) {f : Blt} {ts : TEs} {r : List V → Hp → VK → Prop} (k : ∀ He H0 H H0' H' l vs Q, Ext H0 H H0' H' → VRs K He H0' H' H l vs → bltT f l (Wish K He H0 H Q) → r vs H' Q) : ∀ σ H Q, trE Γ rd K (.blt f ts) σ H Q → tCB r (trA Γ rd K ts) σ H Q := fun σ H Q h => by
  obtain ⟨pn, He, H0e, H0, env, fps, S, h⟩ := h
  unfold wpE at h
  exact trA_of M S h fun l H1 H' vs x r q => k He H0 H H1 H' l vs Q x r q
theorem s_blt (M : Γ.Mono) (G : Good c n C X N sc) (f : Blt) {e : Expr} {es : List Expr} {ts : TEs} {p pos : Pos} (hg : sc.names.lookup (bltS f) = some .globalImplicit)
    (hp : Plain (e :: es)) (hs : PA X (e :: es) (trA Γ rd X.K ts)) : PE X (.Call (.Name (bltS f) p) (e :: es) [] pos) (trE Γ rd X.K (.blt f ts)) := by
  have hm := G.blt _ (bltS_mem f)
  have hp2 := hp
  unfold Plain at hp2
  rw [List.all_cons, Bool.and_eq_true] at hp2
  have h1 := hp2.1
  have q1 : starEach (e :: es) X.env = (false, eval e X.env) :: starEach es X.env := by cases e <;> first | rfl | cases h1
  have q2 : ∀ {pos : Pos}, (backTo pos (starEach es X.env)).any (·.1) = false := any_star hp2.2
  have B : ∀ {id : String} {r : List V → Hp → VK → Prop}, CallR X (.builtin id) r → bootBuiltins (bltS f) = some (.builtin id) →
      (∀ He H0 H H0' H' l vs Q, Ext H0 H H0' H' → VRs X.K He H0' H' H l vs → bltT f l (Wish X.K He H0 H Q) → r vs H' Q) → PE X (.Call (.Name (bltS f) p) (e :: es) [] pos) (trE Γ rd X.K (.blt f ts)) := fun hc hb k =>
    PE.mono (pe_callB hc (G.gl hg) hm hb hs (bltS_nm f) (bltS_dbg f) q1 q2) (blt_pre M k)
  have BT : ∀ {id : String} {r : List V → Hp → VK → Prop}, CallR X (.type id) r → bootBuiltins (bltS f) = some (.type id) →
      (∀ He H0 H H0' H' l vs Q, Ext H0 H H0' H' → VRs X.K He H0' H' H l vs → bltT f l (Wish X.K He H0 H Q) → r vs H' Q) → PE X (.Call (.Name (bltS f) p) (e :: es) [] pos) (trE Γ rd X.K (.blt f ts)) := fun hc hb k =>
    PE.mono (pe_callTy hc (G.gl hg) hm hb hs (bltS_nm f) (bltS_dbg f) q1 q2) (blt_pre M k)
  cases f with
  | len =>
    refine B (call_len_seq.or call_len_str) boot_len fun He H0 H H0' H' l vs Q x r q => ?_
    have q0 : lenT l _ := q
    clear q
    have q := q0
    clear q0
    unfold lenT at q
    split at q
    · obtain ⟨v, e, r⟩ := r.one
      obtain ⟨a, ws, e1, e2, e3⟩ := r.lst x.le
      exact .inl ⟨a, ws, by rw [e, e1], .inl (.inl (.inl e2)), by rw [reps_len e3]; exact q _ _ _ x VR.ofI⟩
    · obtain ⟨v, e, r⟩ := r.one
      obtain ⟨a, ws, e1, e2, e3⟩ := r.tup
      exact .inl ⟨a, ws, by rw [e, e1], .inr (sqT_mono x.le e2), by rw [reps_len e3]; exact q _ _ _ x VR.ofI⟩
    · obtain ⟨v, e, r⟩ := r.one
      obtain ⟨a, e1, e2⟩ := r.scr
      exact .inl ⟨a, _, by rw [e, e1], .inl (sqL_mono x.le e2), by rw [List.length_map]; exact q _ _ _ x VR.ofI⟩
    · obtain ⟨v, e, r⟩ := r.one
      exact .inr ⟨_, by rw [e, r.str], q.1, q.2 _ _ _ x VR.ofI⟩
    · exact q.elim
  | abs =>
    refine B call_abs boot_abs fun He H0 H H0' H' l vs Q x r q => ?_
    have q0 : absT l _ := q
    clear q
    have q := q0
    clear q0
    unfold absT at q
    split at q
    · obtain ⟨v, e, r⟩ := r.one
      exact ⟨_, by rw [e, r.int], q _ _ _ x VR.ofI⟩
    · exact q.elim
  | max =>
    refine B ((call_max2 G.calm).or ((cr_max G.calm).or (cr_maxT G.calm))) boot_max fun He H0 H H0' H' l vs Q x r q => ?_
    have q0 : maxT l _ := q
    clear q
    have q := q0
    clear q0
    unfold maxT at q
    split at q
    · obtain ⟨v, w, e, r1, r2⟩ := r.pair
      exact .inl ⟨_, _, by rw [e, r1.int, r2.int], q _ _ _ x VR.ofI⟩
    · obtain ⟨v, e, r⟩ := r.one
      obtain ⟨l, z, hn, q2⟩ := q.go
      clear q
      subst z
      have q := q2
      obtain ⟨a, e1, e2⟩ := r.ints x.le
      exact .inr (.inl ⟨a, l, by rw [e, e1], e2, List.length_pos_iff.mpr hn, fun m h1 h2 => q m h1 h2 _ _ _ x VR.ofI⟩)
    · obtain ⟨v, e, r⟩ := r.one
      obtain ⟨l, z, hn, q2⟩ := q.go
      clear q
      subst z
      have q := q2
      obtain ⟨a, e1, e2⟩ := r.intsT
      exact .inr (.inr ⟨a, l, by rw [e, e1], sqT_mono x.le e2, List.length_pos_iff.mpr hn, fun m h1 h2 => q m h1 h2 _ _ _ x VR.ofI⟩)
    · exact q.elim
  | min =>
    refine B ((call_min2 G.calm).or ((cr_min G.calm).or (cr_minT G.calm))) boot_min fun He H0 H H0' H' l vs Q x r q => ?_
    have q0 : minT l _ := q
    clear q
    have q := q0
    clear q0
    unfold minT at q
    split at q
    · obtain ⟨v, w, e, r1, r2⟩ := r.pair
      exact .inl ⟨_, _, by rw [e, r1.int, r2.int], q _ _ _ x VR.ofI⟩
    · obtain ⟨v, e, r⟩ := r.one
      obtain ⟨l, z, hn, q2⟩ := q.go
      clear q
      subst z
      have q := q2
      obtain ⟨a, e1, e2⟩ := r.ints x.le
      exact .inr (.inl ⟨a, l, by rw [e, e1], e2, List.length_pos_iff.mpr hn, fun m h1 h2 => q m h1 h2 _ _ _ x VR.ofI⟩)
    · obtain ⟨v, e, r⟩ := r.one
      obtain ⟨l, z, hn, q2⟩ := q.go
      clear q
      subst z
      have q := q2
      obtain ⟨a, e1, e2⟩ := r.intsT
      exact .inr (.inr ⟨a, l, by rw [e, e1], sqT_mono x.le e2, List.length_pos_iff.mpr hn, fun m h1 h2 => q m h1 h2 _ _ _ x VR.ofI⟩)
    · exact q.elim
  | sum =>
    refine B ((cr_sum G.calm).or (cr_sumT G.calm)) boot_sum fun He H0 H H0' H' l vs Q x r q => ?_
    have q0 : sumT l _ := q
    clear q
    have q := q0
    clear q0
    unfold sumT at q
    split at q
    · obtain ⟨v, e, r⟩ := r.one
      obtain ⟨l, z, q2⟩ := q.go
      clear q
      subst z
      have q := q2
      obtain ⟨a, e1, e2⟩ := r.ints x.le
      exact .inl ⟨a, l, by rw [e, e1], e2, q _ _ _ x VR.ofI⟩
    · obtain ⟨v, e, r⟩ := r.one
      obtain ⟨l, z, q2⟩ := q.go
      clear q
      subst z
      have q := q2
      obtain ⟨a, e1, e2⟩ := r.intsT
      exact .inr ⟨a, l, by rw [e, e1], sqT_mono x.le e2, q _ _ _ x VR.ofI⟩
    · exact q.elim
  | all =>
    refine B (cr_all G.calm) boot_all fun He H0 H H0' H' l vs Q x r q => ?_
    have q0 : allT l _ := q
    clear q
    have q := q0
    clear q0
    unfold allT at q
    split at q
    · obtain ⟨v, e, r⟩ := r.one
      obtain ⟨l, z, q2⟩ := q.go
      clear q
      subst z
      have q := q2
      obtain ⟨a, e1, e2⟩ := r.bools x.le
      exact ⟨a, l, by rw [e, e1], e2, q _ _ _ x VR.ofB⟩
    · exact q.elim
  | any =>
    refine B (cr_any G.calm) boot_any fun He H0 H H0' H' l vs Q x r q => ?_
    have q0 : anyT l _ := q
    clear q
    have q := q0
    clear q0
    unfold anyT at q
    split at q
    · obtain ⟨v, e, r⟩ := r.one
      obtain ⟨l, z, q2⟩ := q.go
      clear q
      subst z
      have q := q2
      obtain ⟨a, e1, e2⟩ := r.bools x.le
      exact ⟨a, l, by rw [e, e1], e2, q _ _ _ x VR.ofB⟩
    · exact q.elim
  | int =>
    refine BT call_int1 boot_int fun He H0 H H0' H' l vs Q x r q => ?_
    have q0 : intT l _ := q
    clear q
    have q := q0
    clear q0
    unfold intT at q
    split at q
    · obtain ⟨v, e, r⟩ := r.one
      exact .inl ⟨_, by rw [e, r.int], q _ _ _ x VR.ofI⟩
    · obtain ⟨v, e, r⟩ := r.one
      exact .inr ⟨_, by rw [e, r.bl], q _ _ _ x VR.ofI⟩
    · exact q.elim
  | tuple =>
    refine BT call_tuple_of boot_tuple fun He H0 H H0' H' l vs Q x r q => ?_
    have q0 : tupT l _ := q
    clear q
    have q := q0
    clear q0
    unfold tupT at q
    split at q
    · obtain ⟨v, e, r⟩ := r.one
      obtain ⟨s1, q⟩ := q
      obtain ⟨a, ws, e1, e2, e3⟩ := r.items x (.inl s1)
      refine ⟨a, ws, by rw [e, e1], .inl ⟨.inl (.inl e2), fun p hp => q _ _ _ (x.frzN.newF (o := .tup ws) hp) (VR.flat ?_)⟩⟩
      unfold Rep
      exact ⟨p, ws, rfl, .inl (.inl upd_same), reps_mono (PT.same_upd (x.frzN.le.free hp)) _ _ e3⟩
    · obtain ⟨v, e, r⟩ := r.one
      obtain ⟨a, ws, e1, e2, e3⟩ := r.tup
      refine ⟨a, ws, by rw [e, e1], .inr ⟨sqT_mono x.le e2, q _ _ _ x (VR.flat ?_)⟩⟩
      unfold Rep
      exact ⟨a, ws, rfl, e2, e3⟩
    · exact q.elim
  | list =>
    refine BT call_list_of boot_list fun He H0 H H0' H' l vs Q x r q => ?_
    have q0 : lstT l _ := q
    clear q
    have q := q0
    clear q0
    unfold lstT at q
    split at q
    · obtain ⟨v, e, r⟩ := r.one
      obtain ⟨s1, q⟩ := q
      obtain ⟨a, ws, e1, e2, e3⟩ := r.items x s1
      exact ⟨a, ws, by rw [e, e1], .inl (.inl (.inl e2)), fun p hp => q _ _ _ (x.frzN.trans (Ext.new x.frzN.le hp)) (VR.newL x.frzN hp e3)⟩
    · obtain ⟨v, e, r⟩ := r.one
      obtain ⟨a, ws, e1, e2, e3⟩ := r.tup
      exact ⟨a, ws, by rw [e, e1], .inr (sqT_mono x.le e2), fun p hp => q _ _ _ (x.trans (Ext.new x.le hp)) (VR.newL x hp e3)⟩
    · obtain ⟨v, e, r⟩ := r.one
      obtain ⟨a, e1, e2⟩ := r.scr
      exact ⟨a, _, by rw [e, e1], .inl (sqL_mono x.le e2), fun p hp => q _ _ _ (x.trans (Ext.new x.le hp)) (VR.newL x hp iL_reps)⟩
    · exact q.elim
theorem s_gcd (M : Γ.Mono) (G : Good c n C X N sc) (hc : c.gcd = true) {a b : Expr} {ta tb : TE} {p pos : Pos} (hg : sc.names.lookup ("gcd" : Str) = some .globalImplicit) (hp : Plain [a, b]) (ha : PE X a (trE Γ rd X.K ta)) (hb : PE X b (trE Γ rd X.K tb)) :
    PE X (.Call (.Name "gcd" p) [a, b] [] pos) (trE Γ rd X.K (.gcd ta tb)) := by
  have hp2 := hp
  unfold Plain at hp2
  rw [List.all_cons, List.all_cons, Bool.and_eq_true, Bool.and_eq_true] at hp2
  have h1 := hp2.1
  have h2 := hp2.2.1
  have q1 : starEach [a, b] X.env = (false, eval a X.env) :: starEach [b] X.env := by cases a <;> first | rfl | cases h1
  have q3 : starEach [b] X.env = (false, eval b X.env) :: starEach [] X.env := by cases b <;> first | rfl | cases h2
  have q2 : ∀ {pos : Pos}, (backTo pos (starEach [b] X.env)).any (·.1) = false := any_star (by
    rw [List.all_cons, h2]
    rfl)
  refine PE.mono (pe_callBfun cr_gcd (G.gl hg) (G.gcd hc) (pa_cons ha (pa_cons hb pa_nil q3) q1) (by decide +kernel) q1 q2) fun σ H Q h => ?_
  obtain ⟨pn, He, H0e, H0, env, fps, S, h⟩ := h
  unfold wpE at h
  refine two_of (k := fun x _ y _ => gcdT x y _) M S h fun x o y o' H0' H' v w e r1 r2 q => ?_
  unfold gcdT at q
  split at q
  · exact ⟨_, _, by rw [r1.int, r2.int], q _ _ _ e VR.ofI⟩
  · exact q.elim
end
end PT

namespace PT
open PySem PySem.Spec PyProof.Rows L2
def kdS : Kd → Str
  | .kInt => "int"
  | .kBool => "bool"
  | .kStr => "str"
  | .kList => "list"
  | .kTuple => "tuple"
def kdN : Kd → String
  | .kInt => "int"
  | .kBool => "bool"
  | .kStr => "str"
  | .kList => "list"
  | .kTuple => "tuple"
theorem kd_boot (k : Kd) : bootBuiltins (kdS k) = some (.type (kdN k)) := by cases k <;> decide +kernel
theorem kd_mem (k : Kd) : kdS k ∈ bltN := by cases k <;> decide +kernel
theorem kd_dbg (k : Kd) : (kdS k == ("__debug__" : Str)) = false := by cases k <;> decide +kernel
theorem kd_nm (k : Kd) : kdS k ≠ "__name__" := by cases k <;> decide +kernel
def tyN : T → String
  | .non => "NoneType"
  | .bl _ => "bool"
  | .int _ => "int"
  | .str _ => "str"
  | .tup _ => "tuple"
  | .lst _ => "list"
  | .scr _ => "list"
  | .ins _ _ _ => ""
theorem kit_all {x : T} (h : ∀ C ns ts, x ≠ .ins C ns ts) (k : Kd) : kitB (tyN x) (kdN k) = some (kdIs k x) := by
  cases x with
  | ins C ns ts => exact absurd rfl (h C ns ts)
  | non => cases k <;> decide +kernel
  | bl b =>
    have h : ∀ k, kitB "bool" (kdN k) = some (kdIs k (.bl true)) := by intro k; cases k <;> decide +kernel
    cases k <;> exact h _
  | int b =>
    have h : ∀ k, kitB "int" (kdN k) = some (kdIs k (.int 0)) := by intro k; cases k <;> decide +kernel
    cases k <;> exact h _
  | str b =>
    have h : ∀ k, kitB "str" (kdN k) = some (kdIs k (.str "a")) := by intro k; cases k <;> decide +kernel
    cases k <;> exact h _
  | tup b =>
    have h : ∀ k, kitB "tuple" (kdN k) = some (kdIs k (.tup [])) := by intro k; cases k <;> decide +kernel
    cases k <;> exact h _
  | lst b =>
    have h : ∀ k, kitB "list" (kdN k) = some (kdIs k (.lst [])) := by intro k; cases k <;> decide +kernel
    cases k <;> exact h _
  | scr b =>
    have h : ∀ k, kitB "list" (kdN k) = some (kdIs k (.scr [])) := by intro k; cases k <;> decide +kernel
    cases k <;> exact h _
section
variable {c : Cfg} {n : Nat} {C : CXT} {X : Cx} {N : List Str} {sc : Scope}
variable {pn : List (Nat × V)} {K : PySem.W.Frag} {He H0e H0 H H0' H' H0'' H'' : Hp} {σ : L2.St} {env : Env} {fps : Nat → List Addr} {t : T} {v : V} {o : Og}
variable {Γ : Gam} {rd : Nat → Nat}
theorem ty_of {x : T} {v : V} (h : ∀ C ns ts, x ≠ .ins C ns ts) (r : Rep K H x v) : TyX K H v (.type (tyN x)) := by
  cases x with
  | ins C ns ts => exact absurd rfl (h C ns ts)
  | non => unfold Rep at r; subst r; exact .base .non
  | bl b => unfold Rep at r; subst r; exact .base (.bl b)
  | int b => unfold Rep at r; subst r; exact .base (.int b)
  | str b => unfold Rep at r; subst r; exact .base (.str b)
  | tup ts =>
    unfold Rep at r
    obtain ⟨a, vs, e, s, _⟩ := r
    subst e
    rcases s with (s | ⟨o, s⟩) | ⟨o, its, n, h1, h2, _⟩
    · exact .base (.tup s)
    · exact .fTuple s
    · exact .kTuple h1 h2
  | lst ts =>
    unfold Rep at r
    obtain ⟨a, vs, e, s, _⟩ := r
    subst e
    exact .base (.lst s)
  | scr ts =>
    unfold Rep at r
    obtain ⟨a, e, s⟩ := r
    subst e
    rcases s with (s | ⟨o, s⟩) | ⟨o, its, n, h1, h2, _⟩
    · exact .base (.lst s)
    · exact .base (.frz s)
    · exact .kList h1 h2
/-- a value's type, and what isinstance says of it *and* of the built-in kinds -/
theorem ty_kit {x : T} {v : V} (r : Rep K H x v) : ∃ t, TyX K H v t ∧ (∀ k, PySem.W.kitOne K t (.type (kdN k)) = some (kdIs k x)) ∧ ((∃ C ns ts, x = .ins C ns ts ∧ t = .ref (gaC K C)) ∨ (t = .type (tyN x) ∧ ∀ C ns ts, x ≠ .ins C ns ts)) := by
  by_cases hx : ∃ C ns ts, x = .ins C ns ts
  · obtain ⟨C, ns, ts, rfl⟩ := hx
    unfold Rep at r
    obtain ⟨a, dx, vs, e1, e2, e3, ok, e5⟩ := r
    subst e1
    refine ⟨.ref (gaC K C), .base (.ins e2 ok.cls ok.ca ok.cg ok.ct ok.cm), fun k => ?_, .inl ⟨C, ns, ts, rfl, rfl⟩⟩
    cases k <;> exact ok.kb _ (by decide)
  · have hn : ∀ C ns ts, x ≠ .ins C ns ts := fun C ns ts z => hx ⟨C, ns, ts, z⟩
    exact ⟨_, ty_of hn r, fun k => kit_ty (kit_all hn k), .inr ⟨rfl, hn⟩⟩
theorem s_kd (G : Good c n C X N sc) (k : Kd) {p : Pos} (hg : sc.names.lookup (kdS k) = some .globalImplicit) : PE X (.Name (kdS k) p) (L2.tC (.ty (kdN k))) :=
  pe_bltn (G.gl hg) (G.blt _ (kd_mem k)) (kd_boot k) rfl (kd_nm k) (kd_dbg k)
theorem s_isin1 (M : Γ.Mono) (G : Good c n C X N sc) (k : Kd) {e : Expr} {te : TE} {p q pos : Pos} (hg : sc.names.lookup ("isinstance" : Str) = some .globalImplicit) (hk : sc.names.lookup (kdS k) = some .globalImplicit)
    (hp : nst e = true) (he : PE X e (trE Γ rd X.K te)) : PE X (.Call (.Name "isinstance" p) [e, .Name (kdS k) q] [] pos) (trE Γ rd X.K (.isin te [k])) := by
  have q1 : starEach [e, .Name (kdS k) q] X.env = (false, eval e X.env) :: starEach [.Name (kdS k) q] X.env := by cases e <;> first | rfl | cases hp
  refine PE.mono (pe_callB call_isi (G.gl hg) (G.blt _ (by decide +kernel)) boot_isinstance (pa_cons he (pa_cons (s_kd G k hk) pa_nil) q1) (by decide +kernel) (by decide +kernel) q1 (any_star (by rfl))) fun σ H Q h => ?_
  obtain ⟨pn, He, H0e, H0, env, fps, S, h⟩ := h
  unfold wpE at h
  refine trE_of M S h fun x o H1 H' v ex r q => ?_
  have q' : Wish X.K He H0 H Q (.bl ([k].any fun k => kdIs k x)) (.bor 0) := q
  obtain ⟨t, h1, h2, _⟩ := ty_kit (r.here ex.le)
  refine ⟨v, .ty (kdN k), _, .type (kdN k), kdIs k x, rfl, .ty _, h1, h2 k, ?_⟩
  have := q' _ _ _ ex (VR.ofB (i := [k].any fun k => kdIs k x))
  rw [show ([k].any fun k => kdIs k x) = kdIs k x by simp] at this
  exact this
def kdEs (sc : Scope) : List Kd → List Expr → Prop
  | [], l => l = []
  | k :: ks, l => ∃ q r, l = .Name (kdS k) q :: r ∧ sc.names.lookup (kdS k) = some .globalImplicit ∧ kdEs sc ks r
theorem s_kds (G : Good c n C X N sc) : ∀ {ks : List Kd} {es : List Expr}, kdEs sc ks es → PA X es fun _ H Q => Q (ks.map fun k => V.ty (kdN k)) H
  | [], es, h => by
    have e : es = [] := h
    subst e
    exact pa_nil
  | k :: ks, es, h => by
    obtain ⟨q, r, e, h1, h2⟩ := h
    subst e
    exact PA.mono (pa_cons (s_kd G k h1) (s_kds G h2) rfl) fun σ H Q h => h
theorem kits {x : T} {t : Value} (hn : ∀ k, PySem.W.kitOne K t (.type (kdN k)) = some (kdIs k x)) : ∀ ks : List Kd, PySem.W.kitAny K t (ks.map fun k => Value.type (kdN k)) = some (ks.any fun k => kdIs k x)
  | [] => rfl
  | k :: ks => by
    refine kitAny_cons (b := kdIs k x) (hn k) (fun hb => ?_) fun hb => ?_
    · rw [kits hn ks, List.any_cons, hb, Bool.false_or]
    · rw [List.any_cons, hb, Bool.true_or]
theorem kd_cls : ∀ ks : List Kd, Paired ClsV (ks.map fun k => V.ty (kdN k)) (ks.map fun k => Value.type (kdN k))
  | [] => .nil
  | k :: ks => .cons (.ty _) (kd_cls ks)
theorem s_isinT (M : Γ.Mono) (G : Good c n C X N sc) (ks : List Kd) {e : Expr} {es : List Expr} {m : Nat} {te : TE} {p q pos : Pos} (hg : sc.names.lookup ("isinstance" : Str) = some .globalImplicit) (hk : kdEs sc ks es) (hl : ks.length ≤ 100)
    (hp : nst e = true) (he : PE X e (trE Γ rd X.K te)) : PE X (.Call (.Name "isinstance" p) [e, .Tuple es m q] [] pos) (trE Γ rd X.K (.isin te ks)) := by
  have q1 : starEach [e, .Tuple es m q] X.env = (false, eval e X.env) :: starEach [.Tuple es m q] X.env := by cases e <;> first | rfl | cases hp
  refine PE.mono (pe_callB call_isiT (G.gl hg) (G.blt _ (by decide +kernel)) boot_isinstance (pa_cons he (pa_cons (pe_tup (s_kds G hk)) pa_nil) q1) (by decide +kernel) (by decide +kernel) q1 (any_star (by rfl))) fun σ H Q h => ?_
  obtain ⟨pn, He, H0e, H0, env, fps, S, h⟩ := h
  unfold wpE at h
  refine trE_of M S h fun x o H1 H' v ex r q => ?_
  have q' : Wish X.K He H0 H Q (.bl (ks.any fun k => kdIs k x)) (.bor 0) := q
  refine ⟨Nat.le_trans (by rw [List.length_map]; exact hl) (by rw [sizeLine_eq]; decide), fun tp np => ?_⟩
  obtain ⟨t, h1, h2, _⟩ := ty_kit (rep_mono (PT.same_upd np) _ _ (r.here ex.le))
  refine ⟨v, tp, _, _, _, _, rfl, upd_same, kd_cls ks, h1, kits h2 ks, ?_⟩
  exact q' _ _ _ (ex.newF (o := .tup _) np) VR.ofB
/-- isinstance(e, D), D an own class -/
theorem s_isc (M : Γ.Mono) (G : Good c n C X N sc) {D : Str} {fl : List Str} {oth : List Str} (hD : (D, fl) ∈ c.cls) (ho : ∀ C ∈ oth, ∃ f, (C, f) ∈ c.cls) {e : Expr} {te : TE} {p q pos : Pos} (hg : sc.names.lookup ("isinstance" : Str) = some .globalImplicit) (hk : sc.names.lookup D = some .globalImplicit)
    (hdb : (D == ("__debug__" : Str)) = false) (hp : nst e = true) (he : PE X e (trE Γ rd X.K te)) : PE X (.Call (.Name "isinstance" p) [e, .Name D q] [] pos) (trE Γ rd X.K (.isc te D oth)) := by
  have q1 : starEach [e, .Name D q] X.env = (false, eval e X.env) :: starEach [.Name D q] X.env := by cases e <;> first | rfl | cases hp
  obtain ⟨hm, ok, hk1⟩ := G.cls _ hD
  refine PE.mono (pe_callB call_isi (G.gl hg) (G.blt _ (by decide +kernel)) boot_isinstance (pa_cons he (pa_cons (pe_glob (v := .ref (gaC X.K D)) (G.gl hk) hm rfl hdb) pa_nil) q1) (by decide +kernel) (by decide +kernel) q1 (any_star (by rfl))) fun σ H Q h => ?_
  obtain ⟨pn, He, H0e, H0, env, fps, S, h⟩ := h
  unfold wpE at h
  refine trE_of M S h fun x o H1 H' v ex r q => ?_
  obtain ⟨t, h1, _, h3⟩ := ty_kit (r.here ex.le)
  have fin : ∀ b : Bool, PySem.W.kitOne X.K t (.ref (gaC X.K D)) = some b → Wish X.K He H0 H Q (.bl b) (.bor 0) → rIsi X.K [v, .ref (gaC X.K D)] H' Q := fun b e1 e2 => ⟨v, _, t, _, b, rfl, .own _, h1, e1, e2 _ _ _ ex VR.ofB⟩
  rcases h3 with ⟨C', ns, ts, rfl, rfl⟩ | ⟨rfl, hn⟩
  · obtain ⟨q1, q2⟩ := q
    rcases q1 with q1 | q1
    · subst q1
      exact fin _ (hk1 _ hD) q2
    · obtain ⟨f, hf⟩ := ho _ q1
      exact fin _ (hk1 _ hf) q2
  · refine fin false (G.clb _ hD _ ?_) ?_
    · cases x <;> first | exact absurd rfl (hn _ _ _) | simp [tyN]
    · cases x <;> first | exact absurd rfl (hn _ _ _) | exact q
/-! ### list(range(..)) -/
theorem rgV_rgL (a b : Int) : rgV a b = (rgL a b).map V.int := by
  unfold rgV rgL
  rw [List.map_map]
  rfl
theorem rng_list {a b : Int} {Q : VK} (x : Ext H0 H H0' H') (h : (b - a).toNat ≤ 2 ^ 24 ∧ Wish K He H0 H Q (.lst (iL (rgL a b))) (.fr 1)) : ∀ q, H' q = none → Q (.ref q) (upd H' q (.lst (rgV a b))) := fun q hq => by
  rw [rgV_rgL]
  exact h.2 _ _ _ (x.trans (Ext.new x.le hq)) (VR.newL x hq iL_reps)
theorem s_lrng1 (M : Γ.Mono) (G : Good c n C X N sc) {e : Expr} {te : TE} {p q q2 pos : Pos} (hg : sc.names.lookup ("list" : Str) = some .globalImplicit) (hr : sc.names.lookup ("range" : Str) = some .globalImplicit)
    (hp : nst e = true) (he : PE X e (trE Γ rd X.K te)) : PE X (.Call (.Name "list" p) [.Call (.Name "range" q) [e] [] q2] [] pos) (trE Γ rd X.K (.lrng (.cons te .nil))) := by
  refine PE.mono (pe_listRg G.calm (G.gl hg) (G.blt _ (by decide +kernel)) (prg_1 (G.gl hr) (G.blt _ (by decide +kernel)) he (by cases e <;> first | rfl | cases hp)) (by rfl)) fun σ H Q h => ?_
  obtain ⟨pn, He, H0e, H0, env, fps, S, h⟩ := h
  unfold wpE wpEs at h
  refine trE_of M S h fun x o H1 H' v ex r q => ?_
  unfold wpEs at q
  cases x with
  | int j =>
    obtain ⟨hb, q⟩ := q
    exact ⟨j, r.int, ⟨by omega, by omega, hb.1, hb.2, q.1⟩, rng_list ex q⟩
  | _ => exact q.elim
theorem s_lrng2 (M : Γ.Mono) (G : Good c n C X N sc) {e e2 : Expr} {te te2 : TE} {p q q2 pos : Pos} (hg : sc.names.lookup ("list" : Str) = some .globalImplicit) (hr : sc.names.lookup ("range" : Str) = some .globalImplicit)
    (hp : nst e = true) (hp2 : nst e2 = true) (he : PE X e (trE Γ rd X.K te)) (he2 : PE X e2 (trE Γ rd X.K te2)) : PE X (.Call (.Name "list" p) [.Call (.Name "range" q) [e, e2] [] q2] [] pos) (trE Γ rd X.K (.lrng (.cons te (.cons te2 .nil)))) := by
  refine PE.mono (pe_listRg G.calm (G.gl hg) (G.blt _ (by decide +kernel)) (prg_2 (G.gl hr) (G.blt _ (by decide +kernel)) he he2 (by cases e <;> first | rfl | cases hp) (by cases e2 <;> first | rfl | cases hp2) (any_star (es := [e2]) (by rw [List.all_cons, hp2]; rfl))) (by rfl)) fun σ H Q h => ?_
  obtain ⟨pn, He, H0e, H0, env, fps, S, h⟩ := h
  unfold wpE wpEs at h
  refine trE_of M S h fun x o H1 H' v ex r q => ?_
  unfold wpEs at q
  refine trE_of M (S.mono ex) q fun y o2 H2 H'' w ex2 r2 q => ?_
  unfold wpEs at q
  cases x with
  | int i =>
    cases y with
    | int j =>
      obtain ⟨hb, q⟩ := q
      exact ⟨i, j, r.int, r2.int, ⟨hb.1, hb.2.1, hb.2.2.1, hb.2.2.2, q.1⟩, rng_list (ex.trans ex2) q⟩
    | _ => exact q.elim
  | _ => exact q.elim
/-! ### calls with keywords -/
def AllK (Γ : Gam) (rd : Nat → Nat) (X : Cx) : TEs → List Str → List Keyword → Prop
  | .nil, ks, l => ks = [] ∧ l = []
  | .cons t ts, ks, l => ∃ nm kr e p r, ks = nm :: kr ∧ l = ⟨some nm, e, p⟩ :: r ∧ PE X e (trE Γ rd X.K t) ∧ AllK Γ rd X ts kr r
theorem s_kw (M : Γ.Mono) : ∀ {ts : TEs} {ks : List Str} {l : List Keyword}, AllK Γ rd X ts ks l → PK X l (trA Γ rd X.K ts) ∧ (∀ pos, (backToKw pos (keywordEach l X.env)).all (·.1.isSome) = true) ∧ (∀ pos, (backToKw pos (keywordEach l X.env)).filterMap (·.1) = ks) ∧ ∀ pos, (backToKw pos (keywordEach l X.env)).any (·.1.isNone) = false
  | .nil, ks, l, h => by
    obtain ⟨e1, e2⟩ := h
    subst e1 e2
    refine ⟨⟨fun pos pins s σ H Q I h => pk_nil.run pos pins s σ H Q I ?_⟩, fun _ => rfl, fun _ => rfl, fun _ => rfl⟩
    obtain ⟨pn, He, H0e, H0, env, fps, S, h⟩ := h
    unfold wpEs at h
    exact h H0 H [] (Ext.refl S.le) rfl
  | .cons t ts, ks, l, h => by
    obtain ⟨nm, kr, e, p, r, e1, e2, he, hr⟩ := h
    subst e1 e2
    obtain ⟨h1, h2, h3, h4⟩ := s_kw M hr
    refine ⟨⟨fun pos pins s σ H Q I h => (pk_cons he h1).run pos pins s σ H Q I ?_⟩, fun pos => ?_, fun pos => ?_, fun pos => ?_⟩
    · obtain ⟨pn, He, H0e, H0, env, fps, S, h⟩ := h
      unfold wpEs at h
      refine trE_of M S h fun t o H1 H' v x r h1 => ?_
      refine trA_of M (S.mono x) h1 fun l H2 H'' vs x2 r2 h2 => ?_
      refine h2 H2 H'' (v :: vs) (x.trans x2) ?_
      obtain ⟨f, q⟩ := r.first
      refine ⟨v, vs, H', rfl, x.s, x2.s, ⟨f, ?_⟩, r2⟩
      cases o with
      | bor d => exact ⟨q.1.ext x2, q.2⟩
      | fr d => exact ⟨q.1.ext x2, q.2.1, fun a ha => ⟨⟨(q.2.2 a ha).1.1, by
          obtain ⟨u, e⟩ := (q.2.2 a ha).2
          exact (x2.nw a _ e).trans (q.2.2 a ha).1.2⟩, (q.2.2 a ha).2⟩⟩
    · show (true && _) = true
      exact h2 pos
    · show nm :: _ = nm :: kr
      rw [← h3 pos]
      rfl
    · show (false || _) = false
      exact h4 pos
theorem reps_pick {ts : List T} {vs : List V} (r : Reps K H ts vs) : ∀ ord : List Nat, Reps K H (pick ts ord) (pickL V.non vs ord)
  | [] => reps_nil
  | k :: ord => by
    refine reps_cons ?_ (reps_pick r ord)
    have hl := reps_len r
    show Rep K H (ts.getD k T.non) (vs.getD k V.non)
    by_cases hk : k < ts.length
    · obtain ⟨w, h1, h2⟩ := reps_get r (List.getElem?_eq_getElem hk)
      rw [List.getD_eq_getElem?_getD, List.getD_eq_getElem?_getD, h1, List.getElem?_eq_getElem hk]
      exact h2
    · rw [List.getD_eq_getElem?_getD, List.getD_eq_getElem?_getD, List.getElem?_eq_none (by omega), List.getElem?_eq_none (by omega)]
      unfold Rep
      rfl
theorem vals_pick {vs : List V} {us : List Value} (r : Vals vs us) : ∀ ord : List Nat, Vals (pickL V.non vs ord) (pickL Value.none us ord)
  | [] => .nil
  | k :: ord => by
    refine .cons ?_ (vals_pick r ord)
    have hl := r.length
    show RelV (vs.getD k V.non) (us.getD k Value.none)
    by_cases hk : k < vs.length
    · obtain ⟨w, h1, h2⟩ := r.get (List.getElem?_eq_getElem hk)
      rw [List.getD_eq_getElem?_getD, List.getD_eq_getElem?_getD, h1, List.getElem?_eq_getElem hk]
      exact h2
    · rw [List.getD_eq_getElem?_getD, List.getD_eq_getElem?_getD, List.getElem?_eq_none (by omega), List.getElem?_eq_none (by omega)]
      rfl
theorem vals_take (n : Nat) {vs : List V} {us : List Value} (r : Vals vs us) : Vals (vs.take n) (us.take n) := by
  induction r generalizing n with
  | nil => rw [List.take_nil, List.take_nil]; exact .nil
  | cons h _ ih =>
    cases n with
    | zero => exact .nil
    | succ n => exact .cons h (ih n)
theorem vals_drop (n : Nat) {vs : List V} {us : List Value} (r : Vals vs us) : Vals (vs.drop n) (us.drop n) := by
  induction r generalizing n with
  | nil => rw [List.drop_nil, List.drop_nil]; exact .nil
  | cons h r ih =>
    cases n with
    | zero => exact .cons h r
    | succ n => exact ih n
theorem trA_len : ∀ {l : List (T × Og)} {vs : List V} {H : Hp}, VRs K He H0' H' H l vs → vs.length = l.length
  | [], vs, _, r => by
    have e : vs = [] := r
    rw [e]
    rfl
  | (t, o) :: l, vs, _, r => by
    obtain ⟨v, r, e, r1, Hm, sm, r2⟩ := r.head
    rw [e, List.length_cons, List.length_cons, trA_len r2]
def TEs.len : TEs → Nat
  | .nil => 0
  | .cons _ r => r.len + 1
theorem wpEs_len (M : Γ.Mono) : ∀ {ts : TEs} {env : Env} {Q : List (T × Og) → Prop}, wpEs Γ rd ts env Q → wpEs Γ rd ts env fun l => l.length = ts.len ∧ Q l
  | .nil, env, Q, h => by
    unfold wpEs at h ⊢
    exact ⟨rfl, h⟩
  | .cons t ts, env, Q, h => by
    unfold wpEs at h ⊢
    refine wpE_mono M t env _ _ (fun x o q => ?_) h
    exact wpEs_mono M ts env _ _ (fun l q => ⟨by rw [List.length_cons, q.1]; rfl, q.2⟩) (wpEs_len M q)
theorem callK_key (M : Γ.Mono) (hΓ : Γ = gam c.tbl n) (hrd : rd = rdT c.tbl) {k : Kws} {d : Def} (hf : c.tbl[k.f]? = some d) {bw : Bool} {ts us : TEs}
    (hn : ts.len = k.n) (hu : us.len = k.ks.length) (hbw : bw = true → ts = .nil) :
    ∀ σ H Q, trE Γ rd K (.callK k.f bw k.ord ts us) σ H Q → trA Γ rd K ts σ H fun vs H1 => trA Γ rd K us σ H1 fun zs H2 => vs.length = k.n ∧ zs.length = k.ks.length ∧ spOf K (gam c.tbl n k.f) d.rd (pickL V.non (vs ++ zs) k.ord) H2 Q E0 := fun σ H Q h => by
    subst hΓ hrd
    obtain ⟨pn, He, H0e, H0, env, fps, S, h⟩ := h
    unfold wpE at h
    cases bw with
    | false =>
      refine trA_of M S (wpEs_len M h) fun l H1 H' vs x r q => ?_
      obtain ⟨l1, q⟩ := q
      obtain ⟨as, q1, q2⟩ := r.taken x (Same.refl _) q
      refine trA_of M (S.mono x.frzN) (wpEs_len M q1) fun l' H2 H'' zs x2 r2 q => ?_
      obtain ⟨l2, q⟩ := q
      obtain ⟨bs, q3, q4⟩ := r2.taken x2 (Same.refl _) q
      refine ⟨by rw [trA_len r, l1, hn], by rw [trA_len r2, l2, hu], ?_⟩
      have xx := x.frzN.trans x2.frzN
      have rp := reps_pick (reps_append (reps_mono x2.frzN.s0 _ _ q2) q4) k.ord
      refine ⟨_, _, _, x2.frzN.le, rp, q3.go, fun t v H3 H3' g hR e3 w nd fr => ?_⟩
      have hR : Wish K He H0 H Q t (ogOf (rdT c.tbl k.f)) := hR
      rw [rdT_some hf] at hR
      exact hR _ _ _ (xx.trans e3) (ogOf_VR xx e3 w nd fr)
    | true =>
      have e := hbw rfl
      subst e
      unfold wpEs at h
      refine ⟨pn, He, H0e, H0, env, fps, S, ?_⟩
      unfold wpEs
      intro H0a Ha vs xa ra
      have ea : vs = [] := ra
      subst ea
      refine trA_of M (S.mono xa) (wpEs_len M h) fun l' H1 H' zs x r2 q => ?_
      obtain ⟨l2, q⟩ := q
      refine ⟨hn, by rw [trA_len r2, l2, hu], ?_⟩
      have x := xa.trans x
      have q1 : gam c.tbl n k.f (pick ([] ++ l'.map (·.1)) k.ord) fun t => flatIf true t (Wish K He H0 H Q t (ogOf (rdT c.tbl k.f))) := q.go
      obtain ⟨F, hF, q2⟩ := r2.foot x.le
      have q2 := reps_pick (q2 F fun _ h => h) k.ord
      have cs : Same (adj H1 H' F) H' := adj_same x.le
      refine ⟨_, _, _, cs, q2, q1, fun t v H2 H'' g hR e2 w nd fr => ?_⟩
      obtain ⟨hfl, hR⟩ := hR
      have nl := noL_lst hfl
      have fr2 := (flat_own nl w).2
      have fr3 : Rep K (fun a => if a ∈ F then H1 a else H2 a) t v := noL_rep (fun a ob he hn => by
        by_cases hm : a ∈ F
        · obtain ⟨xs, e⟩ := hF a hm
          have := e2.s0 a _ (show adj H1 H' F a = some (.lst xs) by rw [adj_in hm]; exact e)
          rw [this] at he
          cases he
          exact absurd rfl (hn xs)
        · rw [if_neg hm]; exact he) t v hfl fr2
      refine hR (fun a => if a ∈ F then H1 a else H2 a) H'' v ⟨x.s.trans e2.s, fun a ob he => ?_, fun a ob he => ?_, fun a ob he => ?_⟩ ?_
      · have := x.s0 a ob he
        by_cases hm : a ∈ F
        · rw [if_pos hm]; exact this
        · rw [if_neg hm]
          exact e2.s0 a ob (by rw [adj_out hm]; exact this)
      · by_cases hm : a ∈ F
        · rw [if_pos hm] at he
          exact e2.s a ob (x.le a ob he)
        · rw [if_neg hm] at he
          exact e2.le a ob he
      · by_cases hm : a ∈ F
        · rw [if_pos hm]; exact x.nw a ob he
        · rw [if_neg hm]
          exact (e2.nw a ob (x.s a ob he)).trans ((adj_out hm).trans (x.nw a ob he))
      rw [rdT_some hf]
      cases hd : d.rd with
      | zero => exact ⟨[], ⟨rfl, fr3⟩, fun a ha => by cases ha⟩
      | succ k => exact ⟨[], own_flat nl fr3, .nil, fun a ha => by cases ha⟩
theorem kbn (G : Good c n C X N sc) {k : Kws} (hk0 : k ∈ c.kws) {d : Def} {fd : FuncData} (hbk : ∀ q ∈ c.kws, q.f = k.f → ∀ us ws : List Value, us.length = q.n → ws.length = q.ks.length → bindArgs fd ⟨us, q.ks.zip ws⟩ = pure (d.ps.zip (pickL Value.none (us ++ ws) q.ord))) :
    KBn X.K fd d.ps k.n k.ks (fun us ws => pickL Value.none (us ++ ws) k.ord) (fun vs zs => pickL V.non (vs ++ zs) k.ord) :=
  ⟨fun s us ws X l1 l2 => .of_eq (hbk k hk0 rfl us ws l1 l2), fun r1 r2 => vals_pick (r1.append r2) _⟩
theorem s_callK (M : Γ.Mono) (G : Good c n C X N sc) (hΓ : Γ = gam c.tbl n) (hrd : rd = rdT c.tbl) {k : Kws} (hk0 : k ∈ c.kws) {d : Def} (hf : c.tbl[k.f]? = some d) (hni : d.ini = none) (hng : d.isG = false) (hno : d.own = none) {bw : Bool} {e : Expr} {es : List Expr} {kws : List Keyword} {ts us : TEs} {p pos : Pos}
    (hg : sc.names.lookup d.name = some .globalImplicit) (hdb : (d.name == ("__debug__" : Str)) = false) (hn : ts.len = k.n) (hu : us.len = k.ks.length) (hbw : bw = true → ts = .nil)
    (hp : Plain (e :: es)) (hs : PA X (e :: es) (trA Γ rd X.K ts)) (hkw : AllK Γ rd X us k.ks kws) : PE X (.Call (.Name d.name p) (e :: es) kws pos) (trE Γ rd X.K (.callK k.f bw k.ord ts us)) := by
  obtain ⟨a, fd, hm, hk, F, hb, hbk⟩ := G.fns k.f d hf hni hng hno
  obtain ⟨h1, h2, h3, h4⟩ := s_kw M hkw
  have hp2 := hp
  unfold Plain at hp2
  rw [List.all_cons, Bool.and_eq_true] at hp2
  have hp1 := hp2.1
  have q1 : starEach (e :: es) X.env = (false, eval e X.env) :: starEach es X.env := by cases e <;> first | rfl | cases hp1
  exact PE.mono (pe_callN F (G.room.mono (Nat.le_succ _)) (G.gl hg) hm hk (kbn G hk0 hbk) (G.pass X rfl rfl) hs h1 (h2 pos) (h3 pos) hdb q1 (by rw [any_star hp, h4 pos]; rfl)) (callK_key M hΓ hrd hf hn hu hbw)
theorem s_callK0 (M : Γ.Mono) (G : Good c n C X N sc) (hΓ : Γ = gam c.tbl n) (hrd : rd = rdT c.tbl) {k : Kws} (hk0 : k ∈ c.kws) {d : Def} (hf : c.tbl[k.f]? = some d) (hni : d.ini = none) (hng : d.isG = false) (hno : d.own = none) {bw : Bool} {kws : List Keyword} {us : TEs} {p pos : Pos}
    (hg : sc.names.lookup d.name = some .globalImplicit) (hdb : (d.name == ("__debug__" : Str)) = false) (hn : 0 = k.n) (hu : us.len = k.ks.length)
    (hkw : AllK Γ rd X us k.ks kws) : PE X (.Call (.Name d.name p) [] kws pos) (trE Γ rd X.K (.callK k.f bw k.ord .nil us)) := by
  obtain ⟨a, fd, hm, hk, F, hb, hbk⟩ := G.fns k.f d hf hni hng hno
  obtain ⟨h1, h2, h3, h4⟩ := s_kw M hkw
  refine ⟨fun pins s σ H Q I h => ?_⟩
  refine wpAny_Call_Name_kw (ld_glob I (G.gl hg) hm ?_ hdb)
  refine PySem.W.callWith_KW0 (h₀ := X.base) I.ok.mod.kin hk (h2 pos) ?_ (by show (false || _) = false; exact h4 pos)
  obtain ⟨pn, He, H0e, H0, env, fps, S, h⟩ := callK_key M hΓ hrd hf (by show (0 : Nat) = k.n; exact hn) hu (fun _ => rfl) σ H Q h
  unfold wpEs at h
  have h := h H0 H [] (Ext.refl S.le) rfl
  refine thn (h1.run pos pins s σ H _ I h) fun ws s2 ⟨zs, H2, I2, rz, l1, l2, q2⟩ => ⟨I2.kIn, ?_⟩
  rw [h3 pos]
  exact run_fnN F (G.room.mono (Nat.le_succ _)) (kbn G hk0 hbk) (G.pass X rfl rfl) I2 .nil rz l1 l2 q2
theorem kbnI {k : Kws} {ps : List Str} {fd : FuncData} (hbk : ∀ us ws : List Value, us.length = k.n + 1 → ws.length = k.ks.length → bindArgs fd ⟨us, k.ks.zip ws⟩ = pure (ps.zip (us.take 1 ++ pickL Value.none (us.drop 1 ++ ws) k.ord))) :
    KBn K fd ps (k.n + 1) k.ks (fun us ws => us.take 1 ++ pickL Value.none (us.drop 1 ++ ws) k.ord) (fun vs zs => vs.take 1 ++ pickL V.non (vs.drop 1 ++ zs) k.ord) :=
  ⟨fun s us ws X l1 l2 => .of_eq (hbk us ws l1 l2), fun r1 r2 => (vals_take 1 r1).append (vals_pick ((vals_drop 1 r1).append r2) _)⟩
theorem makeK_key (M : Γ.Mono) (hΓ : Γ = gam c.tbl n) (hrd : rd = rdT c.tbl) {D : Str} {k : Kws} {d : Def} (hf : c.tbl[k.f]? = some d) (hini : d.ini = some D) (ok : ClsOk K D []) {ts us : TEs}
    (hn : ts.len = k.n) (hu : us.len = k.ks.length) :
    ∀ σ H Q, trE Γ rd K (.callK k.f false k.ord ts us) σ H Q → trA Γ rd K ts σ H fun vs H1 => trA Γ rd K us σ H1 fun zs H2 => vs.length = k.n ∧ zs.length = k.ks.length ∧ ∀ p dx, H2 p = none → H2 dx = none → dx ≠ p → spI K D (gam c.tbl n k.f) ((fun vs zs => vs.take 1 ++ pickL V.non (vs.drop 1 ++ zs) k.ord) (.ref p :: vs) zs) (upd (upd H2 dx (.own p)) p (.ins (gaC K D) dx [])) (fun v H2 => v = .non ∧ Q (.ref p) H2) E0 := fun σ H Q h => by
    subst hΓ hrd
    obtain ⟨pn, He, H0e, H0, env, fps, S, h⟩ := h
    unfold wpE at h
    refine trA_of M S (wpEs_len M h) fun l H1 H' vs x r q => ?_
    obtain ⟨l1, q⟩ := q
    obtain ⟨as, q1, q2⟩ := r.taken x (Same.refl _) q
    refine trA_of M (S.mono x.frzN) (wpEs_len M q1) fun l' H2 H'' zs x2 r2 q => ?_
    obtain ⟨l2, q⟩ := q
    obtain ⟨bs, q3, q4⟩ := r2.taken x2 (Same.refl _) q
    refine ⟨by rw [trA_len r, l1, hn], by rw [trA_len r2, l2, hu], ?_⟩
    have xx := x.frzN.trans x2.frzN
    have rp := reps_pick (reps_append (reps_mono x2.frzN.s0 _ _ q2) q4) k.ord
    exact make_key (He := He) hf hini xx rp ok q3.go
theorem s_makeK (M : Γ.Mono) (G : Good c n C X N sc) (hΓ : Γ = gam c.tbl n) (hrd : rd = rdT c.tbl) {k : Kws} (hk0 : k ∈ c.kws) {d : Def} {D : Str} (hf : c.tbl[k.f]? = some d) (hini : d.ini = some D) {fl : List Str} (hc : (D, fl) ∈ c.cls) {e : Expr} {es : List Expr} {kws : List Keyword} {ts us : TEs} {p pos : Pos}
    (hg : sc.names.lookup d.name = some .globalImplicit) (hdb : (d.name == ("__debug__" : Str)) = false) (hn : ts.len = k.n) (hu : us.len = k.ks.length)
    (hp : Plain (e :: es)) (hs : PA X (e :: es) (trA Γ rd X.K ts)) (hkw : AllK Γ rd X us k.ks kws) : PE X (.Call (.Name d.name p) (e :: es) kws pos) (trE Γ rd X.K (.callK k.f false k.ord ts us)) := by
  obtain ⟨a, fd, s, hm, Mk', F, hb, hbk⟩ := G.inis k.f d D hf hini
  have ok := (G.cls _ hc).2.1
  obtain ⟨h1, h2, h3, h4⟩ := s_kw M hkw
  have hp2 := hp
  unfold Plain at hp2
  rw [List.all_cons, Bool.and_eq_true] at hp2
  have hp1 := hp2.1
  have q1 : starEach (e :: es) X.env = (false, eval e X.env) :: starEach es X.env := by cases e <;> first | rfl | cases hp1
  exact PE.mono (pe_makeK Mk' F G.room (G.gl hg) hm (kbnI (hbk k hk0 rfl)) (G.pass X rfl rfl) hs h1 (h2 pos) (h3 pos) hdb q1 (by rw [any_star hp, h4 pos]; rfl)) (makeK_key M hΓ hrd hf hini ⟨ok.cls, (fun f hf => by cases hf), ok.ca, ok.cg, ok.ct, ok.cm, ok.kb⟩ hn hu)
theorem s_makeK0 (M : Γ.Mono) (G : Good c n C X N sc) (hΓ : Γ = gam c.tbl n) (hrd : rd = rdT c.tbl) {k : Kws} (hk0 : k ∈ c.kws) {d : Def} {D : Str} (hf : c.tbl[k.f]? = some d) (hini : d.ini = some D) {fl : List Str} (hc : (D, fl) ∈ c.cls) {kws : List Keyword} {us : TEs} {p pos : Pos}
    (hg : sc.names.lookup d.name = some .globalImplicit) (hdb : (d.name == ("__debug__" : Str)) = false) (hn : 0 = k.n) (hu : us.len = k.ks.length)
    (hkw : AllK Γ rd X us k.ks kws) : PE X (.Call (.Name d.name p) [] kws pos) (trE Γ rd X.K (.callK k.f false k.ord .nil us)) := by
  obtain ⟨a, fd, s, hm, Mk', F, hb, hbk⟩ := G.inis k.f d D hf hini
  have ok := (G.cls _ hc).2.1
  obtain ⟨h1, h2, h3, h4⟩ := s_kw M hkw
  refine PE.mono (pe_makeK0 Mk' F G.room (G.gl hg) hm (by have := kbnI (K := X.K) (hbk k hk0 rfl); rw [← hn] at this; exact this) (G.pass X rfl rfl) h1 (h2 pos) (h3 pos) hdb (by show (false || _) = false; exact h4 pos)) fun σ H Q h => ?_
  obtain ⟨pn, He, H0e, H0, env, fps, S, h⟩ := makeK_key M hΓ hrd hf hini ⟨ok.cls, (fun f hf => by cases hf), ok.ca, ok.cg, ok.ct, ok.cm, ok.kb⟩ (by show (0 : Nat) = k.n; exact hn) hu σ H Q h
  unfold wpEs at h
  obtain ⟨pn', He', H0e', H0', env', fps', S', h⟩ := h H0 H [] (Ext.refl S.le) rfl
  exact ⟨pn', He', H0e', H0', env', fps', S', wpEs_mono M us env' _ _ (fun l q H0' H' vs x r => by have := q H0' H' vs x r; exact ⟨rfl, this.2.1, this.2.2⟩) h⟩
end
end PT

namespace PT
open PySem PySem.Spec PyProof.Rows L2
/-! ### slots stored -/
theorem get_put : ∀ (env : Env) (i j : Nat) (s : Sl), i < env.length → (Env.put env i s).get j = if i = j then s else env.get j
  | [], i, j, s, h => by simp at h
  | a :: r, 0, 0, s, h => by simp [Env.put, Env.get]
  | a :: r, 0, j + 1, s, h => by simp [Env.put, Env.get]
  | a :: r, i + 1, 0, s, h => by simp [Env.put, Env.get]
  | a :: r, i + 1, j + 1, s, h => by
    have ih := get_put r i j s (by simpa using h)
    simp only [Env.put, Env.get, ih, Nat.add_right_cancel_iff]
theorem len_put : ∀ (env : Env) (i : Nat) (s : Sl), (Env.put env i s).length = env.length
  | [], i, s => rfl
  | a :: r, 0, s => rfl
  | a :: r, i + 1, s => by simp [Env.put, len_put r i s]
theorem get_map {f : Sl → Sl} (h : f .em = .em) : ∀ (env : Env) (j : Nat), Env.get (env.map f) j = f (env.get j)
  | [], j => h.symm
  | a :: r, 0 => rfl
  | a :: r, j + 1 => get_map h r j
theorem len_store (env : Env) (i : Nat) (s : Sl) : (env.store i s).length = env.length := by
  unfold Env.store
  rw [len_put, List.length_map]
theorem get_store {env : Env} {i : Nat} {s : Sl} (h : i < env.length) (j : Nat) : (env.store i s).get j = if i = j then s else Sl.unroot i (env.get j) := by
  unfold Env.store
  rw [get_put _ _ _ _ (by rw [List.length_map]; exact h), get_map rfl]
/-- the value stands for the slot -/
def SlV (K : PySem.W.Frag) (He H0 H : Hp) : Sl → V → Prop
  | .em, _ => True
  | .sh t, v => Rep K H0 t v
  | .br d t, v => ∃ f, Own K H0 H d t v f ∧ ∀ a ∈ f, He a = none
  | _, _ => False
section
variable {pn : List (Nat × V)} {K : PySem.W.Frag} {He H0e H0 H H0' H' H0'' H'' : Hp} {σ : L2.St} {env : Env} {fps : Nat → List Addr} {t : T} {v : V} {o : Og}
def fpUpd (fps : Nat → List Addr) (i : Nat) (f : List Addr) : Nat → List Addr := fun j => if i = j then f else fps j
theorem SlR.frame {s : Sl} {σ' : L2.St} {env' : Env} {j : Nat} {f : List Addr} (h : SlR K He H0 H σ env j f s) (e : σ'[j]? = σ[j]?) (hr : ∀ r p, s = .al r p → σ'[r]? = σ[r]? ∧ env'.get r = env.get r) : SlR K He H0 H σ' env' j f s := by
  cases s with
  | em => exact h
  | sh t =>
    obtain ⟨a, v, b, c⟩ := h
    exact ⟨a, v, e.trans b, c⟩
  | ow d t =>
    obtain ⟨v, b, c⟩ := h
    exact ⟨v, e.trans b, c⟩
  | br d t =>
    obtain ⟨a, v, f, b, c⟩ := h
    exact ⟨a, v, f, e.trans b, c⟩
  | slf C ns ts =>
    obtain ⟨a, dx, vs, b, c, x⟩ := h
    exact ⟨a, dx, vs, b, e.trans c, x⟩
  | al r p =>
    obtain ⟨a, v, vr, d, t, b, c, x, y⟩ := h
    obtain ⟨h1, h2⟩ := hr r p rfl
    exact ⟨a, v, vr, d, t, e.trans b, h1.trans c, h2.trans x, y⟩
/-- a slot is stored; f: the footprint of what is stored -/
theorem StR.put (S : StR K pn He H0e H0 H σ env fps) {i : Nat} {w : Option V} {s : Sl} {f : List Addr} (hi : i < σ.length)
    (hs : SlR K He H0 H (σ.set i w) (env.store i s) i f s) (nf : f.Nodup) (df : ∀ j a, i ≠ j → a ∈ f → a ∉ fps j) (of : ∀ a ∈ f, H0 a = none ∧ He a = none) (hpn : ∀ q ∈ pn, q.1 = i → w = some q.2) :
    StR K pn He H0e H0 H (σ.set i w) (env.store i s) (fpUpd fps i f) := by
  have hi' : i < env.length := by rw [S.len]; exact hi
  refine ⟨S.ext, by rw [len_store, List.length_set]; exact S.len, fun j => ?_, fun j => ?_, fun j k a hjk ha => ?_, fun j a ha => ?_, fun q hq => ?_⟩
  · rw [get_store hi']
    unfold fpUpd
    by_cases e : i = j
    · subst e
      rw [if_pos rfl, if_pos rfl]
      exact hs
    · rw [if_neg e, if_neg e]
      have q := S.slot j
      have e1 : (σ.set i w)[j]? = σ[j]? := List.getElem?_set_ne e
      cases g : env.get j with
      | al r p =>
        rw [g] at q
        by_cases er : r = i
        · subst er
          show SlR _ _ _ _ _ _ _ _ (if r = r then .em else .al r p)
          rw [if_pos rfl]
          exact q.1
        · show SlR _ _ _ _ _ _ _ _ (if r = i then .em else .al r p)
          rw [if_neg er]
          refine q.frame e1 fun r' p' z => ?_
          cases z
          refine ⟨List.getElem?_set_ne (Ne.symm er), ?_⟩
          obtain ⟨_, _, _, d, t, _, _, hr, _⟩ := q
          rw [get_store hi', if_neg (Ne.symm er), hr]
          rfl
      | _ =>
        rw [g] at q
        exact q.frame e1 fun r p z => by cases z
  · unfold fpUpd
    split
    · exact nf
    · exact S.nd j
  · unfold fpUpd at ha ⊢
    by_cases e : i = j
    · rw [if_pos e] at ha
      have : i ≠ k := fun z => hjk (e.symm.trans z)
      rw [if_neg this]
      exact df k a this ha
    · rw [if_neg e] at ha
      by_cases e2 : i = k
      · rw [if_pos e2]
        exact fun h => df j a e h ha
      · rw [if_neg e2]
        exact S.dj j k a hjk ha
  · unfold fpUpd at ha
    by_cases e : i = j
    · rw [if_pos e] at ha
      exact of a ha
    · rw [if_neg e] at ha
      exact S.out j a ha
  · by_cases e : q.1 = i
    · rw [e, List.getElem?_set_self hi, hpn q hq e]
    · rw [List.getElem?_set_ne (Ne.symm e)]
      exact S.pin q hq
/-- .. by a value that is frozen or only read -/
theorem StR.putV (S : StR K pn He H0e H0 H σ env fps) {i : Nat} {v : V} {s : Sl} (hi : i < σ.length) (hs : SlV K He H0 H s v) (hpn : ∀ q ∈ pn, q.1 ≠ i) : StR K pn He H0e H0 H (σ.set i (some v)) (env.store i s) (fpUpd fps i []) := by
  have e : (σ.set i (some v))[i]? = some (some v) := List.getElem?_set_self hi
  refine S.put hi ?_ .nil (fun j a _ ha => by cases ha) (fun a ha => by cases ha) (fun q hq e => absurd e (hpn q hq))
  cases s with
  | em => exact rfl
  | sh t => exact ⟨rfl, v, e, hs⟩
  | br d t =>
    obtain ⟨f, h⟩ := hs
    exact ⟨rfl, v, f, e, h⟩
  | ow _ _ => exact hs.elim
  | al _ _ => exact hs.elim
  | slf _ _ _ => exact hs.elim
/-- names forgotten -/
theorem StR.wipe (S : StR K [] He H0e H0 H σ env fps) : ∀ (is : List Nat), (∀ i ∈ is, i < σ.length) → ∃ fps', StR K [] He H0e H0 H (L2.wipe σ is) (env.wipe is) fps'
  | [], _ => ⟨fps, S⟩
  | i :: is, h => by
    obtain ⟨fps', S'⟩ := S.wipe is fun j hj => h j (List.mem_cons_of_mem _ hj)
    refine ⟨_, S'.put (w := none) (s := .em) (f := []) (by rw [L2.wipe_length]; exact h i List.mem_cons_self) rfl .nil (fun j a _ ha => by cases ha) (fun a ha => by cases ha) (fun q hq => by cases hq)⟩
/-- names forgotten, the slots as they are -/
theorem StR.fgt (S : StR K pn He H0e H0 H σ env fps) : ∀ (is : List Nat), (∀ i ∈ is, i < σ.length) → (∀ i ∈ is, ∀ q ∈ pn, q.1 ≠ i) → ∃ fps', StR K pn He H0e H0 H σ (env.wipe is) fps'
  | [], _, _ => ⟨fps, S⟩
  | i :: is, h, hpn => by
    obtain ⟨fps', S'⟩ := S.fgt is (fun j hj => h j (List.mem_cons_of_mem _ hj)) fun j hj => hpn j (List.mem_cons_of_mem _ hj)
    have hi := h i List.mem_cons_self
    have := S'.put (w := σ[i]) (s := .em) (f := []) hi rfl .nil (fun j a _ ha => by cases ha) (fun a ha => by cases ha) (fun q hq e => absurd e (hpn i List.mem_cons_self q hq))
    rw [List.set_getElem_self hi] at this
    exact ⟨_, this⟩
def sets (σ : L2.St) : List (Nat × Sl) → List V → L2.St
  | (i, _) :: r, v :: vs => sets (σ.set i (some v)) r vs
  | _, _ => σ
def SlVs (K : PySem.W.Frag) (He H0 H : Hp) : List (Nat × Sl) → List V → Prop
  | [], vs => vs = []
  | (_, s) :: r, vs => ∃ v w, vs = v :: w ∧ SlV K He H0 H s v ∧ SlVs K He H0 H r w
theorem SlV.ext {s : Sl} (h : SlV K He H0 H s v) (s0 : Same H0 H0') (s1 : Same H H') : SlV K He H0' H' s v := by
  cases s with
  | em => trivial
  | sh t => exact rep_mono s0 t v h
  | br d t =>
    obtain ⟨f, a, b⟩ := h
    exact ⟨f, own_imp s0 d t v f (fun x hx => by
      obtain ⟨xs, e⟩ := own_in d t v f a x hx
      rw [e, s1 x _ e]) a, b⟩
  | ow _ _ => exact h.elim
  | al _ _ => exact h.elim
  | slf _ _ _ => exact h.elim
theorem SlVs.ext : ∀ {l : List (Nat × Sl)} {vs : List V}, SlVs K He H0 H l vs → Same H0 H0' → Same H H' → SlVs K He H0' H' l vs
  | [], _, h, _, _ => h
  | (i, s) :: r, vs, h, s0, s1 => by
    obtain ⟨v, w, e, a, b⟩ := h
    exact ⟨v, w, e, a.ext s0 s1, b.ext s0 s1⟩
theorem StR.puts : ∀ {l : List (Nat × Sl)} {vs : List V} {σ : L2.St} {env : Env} {fps : Nat → List Addr}, StR K pn He H0e H0 H σ env fps → (∀ p ∈ l, p.1 < σ.length) → (∀ p ∈ l, ∀ q ∈ pn, q.1 ≠ p.1) → SlVs K He H0 H l vs → ∃ fps', StR K pn He H0e H0 H (sets σ l vs) (env.puts l) fps'
  | [], vs, σ, env, fps, S, _, _, h => ⟨fps, by
    have e : vs = [] := h
    subst e
    exact S⟩
  | (i, s) :: r, vs, σ, env, fps, S, hl, hp, h => by
    obtain ⟨v, w, e, a, b⟩ := h
    subst e
    have S' := S.putV (hl _ List.mem_cons_self) a (hp _ List.mem_cons_self)
    exact S'.puts (fun p hp => by rw [List.length_set]; exact hl p (List.mem_cons_of_mem _ hp)) (fun p hm => hp p (List.mem_cons_of_mem _ hm)) b
theorem len_sets : ∀ {l : List (Nat × Sl)} {vs : List V} {σ : L2.St}, (sets σ l vs).length = σ.length
  | [], _, _ => rfl
  | (i, s) :: r, [], σ => rfl
  | (i, s) :: r, v :: vs, σ => by
    show (sets (σ.set i (some v)) r vs).length = σ.length
    rw [len_sets, List.length_set]
end
end PT

namespace PT
open PySem PySem.Spec PyProof.Rows L2
/-! ### zip of two things, each a list or a tuple -/
def SqK : Bool → PySem.W.Frag → Hp → Addr → List V → Prop
  | true => SqL
  | false => SqT
def ItK : Bool → Heap → Addr → Addr → Nat → Prop
  | true, h, it, a, i => h.IsListIter it a i
  | false, h, it, a, i => h.IsTupleIter it a i
def ArK : Bool → Heap → Addr → Array Value → Prop
  | true, h, a, xs => h.IsList a xs
  | false, h, a, xs => h.IsTuple a xs
section
variable {X : Cx} {pins : List (Addr × Obj)} {σ : L2.St} {H : Hp} {s : Shared} {a : Addr} {xs ys : List V}
theorem sqK_at (I : Inv X pins σ H s) : ∀ {k : Bool}, SqK k X.K H a xs → ∃ its : List Value, Vals xs its ∧ ArK k s.heap a its.toArray ∧ a < s.heap.objs.size
  | true, h => by
    obtain ⟨its, r, p, _⟩ := I.list h
    exact ⟨its, r, p.isList, p.lt⟩
  | false, h => by
    obtain ⟨its, r, p, _⟩ := I.tuple h
    exact ⟨its, r, p, p.lt⟩
theorem sqK_one (I : Inv X pins σ H s) : ∀ {k : Bool}, SqK k X.K H a xs → SqK k X.K H a ys → xs = ys
  | true, h, h' => I.list_inj h h'
  | false, h, h' => I.tuple_inj h h'
theorem drawsK {P : Program} {w : World} {A : Around} (hh : A.handled = none) (it : Addr) (hne : a ≠ it) (items : Array Value) : ∀ k : Bool, Draws P w A it [it, a] items.size (fun i v => items[i]? = some v) (fun i h => ItK k h it a i ∧ ArK k h a items)
  | true => Draws.list hh it a hne items
  | false => Draws.tuple hh it a hne items
theorem itK_obj {h : Heap} {it : Addr} {i : Nat} : ∀ {k : Bool}, ItK k h it a i → ∃ o, h.get? it = some o ∧ ∀ v, o.data ≠ .cell v
  | true, ⟨o, e, _, d⟩ => ⟨o, e, fun v z => by rw [d] at z; cases z⟩
  | false, ⟨o, e, _, d⟩ => ⟨o, e, fun v z => by rw [d] at z; cases z⟩
theorem itK_keep {h h' : Heap} {it : Addr} {i : Nat} (e : ∀ o, h.get? it = some o → h'.get? it = some o) : ∀ {k : Bool}, ItK k h it a i → ItK k h' it a i
  | true, st => st.at e
  | false, st => st.at e
theorem beginsK (items : Array Value) : ∀ k : Bool, ∃ o, Begins (.ref a) o (fun h => ArK k h a items) ∧ ∀ (h : Heap) (it : Addr), h.get? it = some o → ItK k h it a 0
  | true => ⟨_, begins_list a items, fun h it e => ⟨_, e, rfl, rfl⟩⟩
  | false => ⟨_, begins_tuple a items, fun h it e => ⟨_, e, rfl, rfl⟩⟩
end
def ItzK (k l : Bool) (K : PySem.W.Frag) (a b : Addr) : L2.It where
  go := fun i H => ∃ (xs ys : List V) (x y : V), SqK k K H a xs ∧ SqK l K H b ys ∧ xs[i]? = some x ∧ ys[i]? = some y
  yld := fun i H v H' => ∃ p x y, v = .ref p ∧ H p = none ∧ H' = upd H p (.tup [x, y]) ∧ (∀ xs, SqK k K H a xs → xs[i]? = some x) ∧ ∀ ys, SqK l K H b ys → ys[i]? = some y
  stop := fun i H => ∃ xs ys : List V, SqK k K H a xs ∧ SqK l K H b ys ∧ i ≤ xs.length ∧ i ≤ ys.length ∧ (i = xs.length ∨ i = ys.length)
theorem turn_zipK {P : Program} {w : World} {K : PySem.W.Frag} {elts : List Expr} {m : Nat} {tpos : Pos} {k l : Bool} {a b z TI TO i1 i2 : Addr} (S : ZipSep2 z TI TO i1 i2 [i1, a] [i2, b]) (na : a ≠ i1 ∧ b ≠ i2) :
    Turn P w K (.Tuple elts m tpos) (ItzK k l K a b) [z, TI, TO, i1, i2] z (fun i h => IsZip h z TI TO .none ∧ IsTupOf2 h TI (.ref i1) (.ref i2) ∧ (∃ x y, IsTupOf2 h TO x y) ∧ ItK k h i1 a i ∧ ItK l h i2 b i) := by
  have five : ∀ {c : Addr} {p : Addr → Prop}, c ∈ [z, TI, TO, i1, i2] → p z → p TI → p TO → p i1 → p i2 → p c := fun {c p} hc p1 p2 p3 p4 p5 => by
    have hc : c = z ∨ c = TI ∨ c = TO ∨ c = i1 ∨ c = i2 := by simpa using hc
    rcases hc with e | e | e | e | e <;> rw [e] <;> assumption
  exact
  { mem := List.mem_cons_self
    obj := fun i h ⟨hz, hI, ⟨x, y, hO⟩, h1, h2⟩ c hc => five (p := fun c => ∃ o, h.get? c = some o ∧ ∀ v, o.data ≠ .cell v) hc ⟨_, hz, nofun⟩ ⟨_, hI, nofun⟩ ⟨_, hO, nofun⟩ (itK_obj h1) (itK_obj h2)
    keep := fun i h h' ⟨hz, hI, ⟨x, y, hO⟩, h1, h2⟩ kp => ⟨kp z (by simp) _ hz, kp TI (by simp) _ hI, ⟨x, y, kp TO (by simp) _ hO⟩, itK_keep (fun o => kp i1 (by simp) o) h1, itK_keep (fun o => kp i2 (by simp) o) h2⟩
    item := fun X hP hw hK hc i pins s σ H E I hf ⟨hz, hI, ⟨x0, y0, hO⟩, h1, h2⟩ ⟨xs, ys, x, y, qx, qy, gx, gy⟩ => by
      subst hP hw hK
      obtain ⟨its, rv, p1, l1⟩ := sqK_at I qx
      obtain ⟨jts, rw', p2, l2⟩ := sqK_at I qy
      have hh : X.A.in1.handled = none := I.ok.hd hc
      have len1 := rv.length
      have len2 := rw'.length
      have b1 : i < its.toArray.size := by
        have := (List.getElem?_eq_some_iff.mp gx).1
        rw [List.size_toArray]; omega
      have b2 : i < jts.toArray.size := by
        have := (List.getElem?_eq_some_iff.mp gy).1
        rw [List.size_toArray]; omega
      have zlt : z < s.heap.objs.size := Heap.lt_size hz
      refine wpAny_pyNext_zipD2_item S (drawsK hh i1 na.1 its.toArray k) (drawsK hh i2 na.2 jts.toArray l) hz hI hO ⟨h1, p1⟩ ⟨h2, p2⟩ b1 b2 fun u1 u2 h' tk e1 e2 hz' hO' st1 st2 hT hsz kp => ?_
      obtain ⟨w1, c1, r1⟩ := rv.get gx
      obtain ⟨w2, c2, r2⟩ := rw'.get gy
      have f1 : u1 = w1 := by
        have e1 : its.toArray[i]? = some u1 := e1
        rw [List.getElem?_toArray, c1] at e1
        exact (Option.some.inj e1).symm
      have f2 : u2 = w2 := by
        have e2 : jts.toArray[i]? = some u2 := e2
        rw [List.getElem?_toArray, c2] at e2
        exact (Option.some.inj e2).symm
      subst f1 f2
      refine ⟨_, rfl, wpAny_letOwnedTupleGo_zip (s := { s with heap := h', toks := tk }) hz' fun h'' hz'' sb => ?_⟩
      have other : ∀ c o, c ∉ [z, TI, TO, i1, i2] → s.heap.get? c = some o → h''.get? c = some o := fun c o hc e => by
        have hc : c ≠ z ∧ c ≠ TI ∧ c ≠ TO ∧ c ≠ i1 ∧ c ≠ i2 := by simpa using hc
        exact (sb.2 c hc.1).trans (kp c o hc.1 hc.2.2.1 hc.2.2.2.1 hc.2.2.2.2 e)
      have hT2 : h''.get? s.heap.objs.size = some { cls := .type "tuple", data := .seq #[u1, u2] } := (sb.2 _ (Nat.ne_of_gt zlt)).trans hT
      have nw : ObjOk X.prog X.w (upd H s.heap.objs.size (.tup [x, y])) h'' s.heap.objs.size (.tup [x, y]) :=
        ⟨by show (2 : Nat) ≤ sizeLine; rw [sizeLine_eq]; decide, [u1, u2], .cons r1 (.cons r2 .nil), ⟨_, hT2, rfl, _, rfl⟩⟩
      refine ⟨.ref s.heap.objs.size, _, I.turnedNew (t' := tk) other hf (Nat.le_refl _) nw, rfl, ⟨_, x, y, rfl, I.hok.fresh (Nat.le_refl _), rfl, fun l hl => ?_, fun l hl => ?_⟩, ⟨hz'', ?_, ⟨u1, u2, ?_⟩, ?_, ?_⟩, fun c hcm => ?_⟩
      · rw [sqK_one I hl qx]; exact gx
      · rw [sqK_one I hl qy]; exact gy
      · exact (sb.2 TI S.TIz).trans (kp TI _ S.TIz S.TITO S.TIi1 S.TIi2 hI)
      · exact (sb.2 TO S.TOz).trans hO'
      · exact itK_keep (fun o e => (sb.2 i1 S.zi1.symm).trans e) st1.1
      · exact itK_keep (fun o e => (sb.2 i2 S.zi2.symm).trans e) st2.1
      · have lt : c < s.heap.objs.size := by
          obtain ⟨o1, q1, _⟩ := itK_obj h1
          obtain ⟨o2, q2, _⟩ := itK_obj h2
          exact five (p := fun c => c < s.heap.objs.size) hcm zlt (Heap.lt_size hI) (Heap.lt_size hO) (Heap.lt_size q1) (Heap.lt_size q2)
        rw [upd_ne (Nat.ne_of_lt lt)]
        exact (hf c hcm).1
    done := fun X hP hw hK hc i pins s σ H E I hf ⟨hz, hI, ⟨x0, y0, hO⟩, h1, h2⟩ ⟨xs, ys, qx, qy, le1, le2, hend⟩ => by
      subst hP hw hK
      obtain ⟨its, rv, p1, l1⟩ := sqK_at I qx
      obtain ⟨jts, rw', p2, l2⟩ := sqK_at I qy
      have hh : X.A.in1.handled = none := I.ok.hd hc
      have len1 := rv.length
      have len2 := rw'.length
      refine wpAny_pyNext_zipD2_end S (drawsK hh i1 na.1 its.toArray k) (drawsK hh i2 na.2 jts.toArray l) hz hI hO ⟨h1, p1⟩ ⟨h2, p2⟩ (by rw [List.size_toArray]; omega) (by rw [List.size_toArray]; omega) ?_ fun h' tk kp => ⟨rfl, I.turnedL (t' := tk) (ch := [z, TI, TO, i1, i2]) (fun c o hc e => ?_) hf⟩
      · rcases hend with e | e
        · exact .inl (by rw [List.size_toArray]; omega)
        · exact .inr (by rw [List.size_toArray]; omega)
      · have hc : c ≠ z ∧ c ≠ TI ∧ c ≠ TO ∧ c ≠ i1 ∧ c ≠ i2 := by simpa using hc
        exact kp c o hc.1 hc.2.2.1 hc.2.2.2.1 hc.2.2.2.2 e
    self := fun A i s Q E st h => wpAny_pyIter_zip st.1 h }
/-- what is walked, each a list or a tuple -/
def iZipK (K : PySem.W.Frag) (ta : L2.TA) : L2.TI := fun σ H R => ta σ H fun vs H1 => ∃ k l a b xs ys, vs = [.ref a, .ref b] ∧ SqK k K H1 a xs ∧ SqK l K H1 b ys ∧ R (ItzK k l K a b) H1
theorem pi_zipK {X : Cx} {e e2 : Expr} {ta : L2.TA} {p pos tpos : Pos} {elts : List Expr} {m : Nat} (hg : Gl X "zip") (hm : X.mg "zip" = none) (ha : PA X [e, e2] ta)
    (hs : starEach [e, e2] X.env = (false, eval e X.env) :: starEach [e2] X.env) (hpl : (backTo pos (starEach [e2] X.env)).any (·.1) = false) :
    PI X (.Tuple elts m tpos) (.Call (.Name "zip" p) [e, e2] [] pos) (iZipK X.K ta) := ⟨fun pins s σ H R I h => by
  refine Call_ (ld_blt I hg hm boot_zip (callWith_type1 (thn (ha.run pos pins s σ H _ I h) fun us s1 ⟨vs, H1, I1, r1, k, l, a, b, xs, ys, ev, qx, qy, q⟩ => ?_) hs hpl))
  subst ev
  obtain ⟨u1, u2, eu, g1, g2⟩ := vals2 r1
  subst eu
  cases (show u1 = Value.ref a from g1)
  cases (show u2 = Value.ref b from g2)
  obtain ⟨its, rv, p1, l1⟩ := sqK_at I1 qx
  obtain ⟨jts, rw', p2, l2⟩ := sqK_at I1 qy
  obtain ⟨o1, B1, c1⟩ := beginsK (a := a) its.toArray k
  obtain ⟨o2, B2, c2⟩ := beginsK (a := b) jts.toArray l
  refine zip_begins2 B1 B2 p1 p2 fun h' hz hI hO e1 e2 hsz kp => wpAny_pyIter_zip hz ?_
  refine ⟨s1.heap.objs.size + 4, [s1.heap.objs.size + 4, s1.heap.objs.size + 2, s1.heap.objs.size + 3, s1.heap.objs.size, s1.heap.objs.size + 1], _, _, H1, rfl, I1.kept (t' := s1.toks) kp,
    turn_zipK (k := k) (l := l) (zip_sep2 (fp1 := [a]) (fp2 := [b]) (fun c hc => by simpa using (by simpa using hc : c = a) ▸ l1) (fun c hc => by simpa using (by simpa using hc : c = b) ▸ l2)) ⟨Nat.ne_of_lt l1, Nat.ne_of_lt (Nat.lt_succ_of_lt l2)⟩, ⟨hz, hI, ⟨_, _, hO⟩, c1 _ _ e1, c2 _ _ e2⟩, fun c hc => ?_, q⟩
  have hle : s1.heap.objs.size ≤ c := by
    have hc : c = s1.heap.objs.size + 4 ∨ c = s1.heap.objs.size + 2 ∨ c = s1.heap.objs.size + 3 ∨ c = s1.heap.objs.size ∨ c = s1.heap.objs.size + 1 := by simpa using hc
    rcases hc with z | z | z | z | z <;> rw [z] <;> first | exact Nat.le_refl _ | exact Nat.le_add_right _ _
  exact I1.fpOk hle (I1.hok.fresh hle)⟩
end PT

namespace PT
open PySem PySem.Spec PyProof.Rows L2
/-! ### what is walked -/
structure Wlk (K : PySem.W.Frag) (He H0 Hb : Hp) (J : L2.It) (g : TG) (xs : List (List (Nat × Sl))) : Prop where
  goes : ∀ i Hx, i < xs.length → Same Hb Hx → J.go i Hx
  stops : ∀ Hx, Same Hb Hx → J.stop xs.length Hx
  yields : ∀ i it Hx x Hx', xs[i]? = some it → Same Hb Hx → J.yld i Hx x Hx' → (Hx' = Hx ∨ ∃ p o, Hx p = none ∧ Hx' = upd Hx p o) ∧ ∃ vs, SlVs K He H0 Hb it vs ∧ ∀ (σ : L2.St) (Q : L2.St → Hp → Prop), Q (sets σ it vs) Hx' → g x σ Hx' Q
def ItsK : Bool → PySem.W.Frag → Addr → L2.It
  | true => Itl
  | false => Itt
theorem sqK_mono {K : PySem.W.Frag} {H H' : Hp} {a : Addr} {xs : List V} (e : Same H H') : ∀ {k : Bool}, SqK k K H a xs → SqK k K H' a xs
  | true, h => sqL_mono e h
  | false, h => sqT_mono e h
section
variable {c : Cfg} {n : Nat} {C : CXT} {X : Cx} {N : List Str} {sc : Scope}
variable {pn : List (Nat × V)} {K : PySem.W.Frag} {He H0e H0 H H0' H' H0'' H'' : Hp} {σ : L2.St} {env : Env} {fps : Nat → List Addr} {t : T} {v : V} {o : Og}
variable {Γ : Gam} {rd : Nat → Nat}
def iSeqK (K : PySem.W.Frag) (tl : L2.TE) : L2.TI := fun σ H R => tl σ H fun x H1 => ∃ k a xs, x = .ref a ∧ SqK k K H1 a xs ∧ R (ItsK k K a) H1
theorem pi_seqK {tg l : Expr} {tl : L2.TE} (hl : PE X l tl) : PI X tg l (iSeqK X.K tl) := ⟨fun pins s σ H R I h => thn (hl.run pins s σ H _ I h) fun v s1 ⟨x, H1, I1, r1, k, a, xs, e, hq, q⟩ => by
  subst e
  cases r1
  obtain ⟨its, rv, p, hlt⟩ := sqK_at I1 hq
  have new : ∀ (ob : Obj) b, b ∈ [s1.heap.objs.size] → FpOk X pins H1 b := fun ob b hb => by
    have e : b = s1.heap.objs.size := by simpa using hb
    rw [e]
    exact I1.fpOk (Nat.le_refl _) (I1.hok.fresh (Nat.le_refl _))
  cases k with
  | true => exact wpAny_pyIter_list p ⟨_, [s1.heap.objs.size], _, _, H1, rfl, I1.kept (t' := s1.toks) (fun b o e => Heap.get?_push_of_some _ e), turn_list a _, ⟨_, Heap.get?_push_size _ rfl, rfl, rfl⟩, new default, q⟩
  | false => exact wpAny_pyIter_tuple p ⟨_, [s1.heap.objs.size], _, _, H1, rfl, I1.kept (t' := s1.toks) (fun b o e => Heap.get?_push_of_some _ e), turn_tuple a _, ⟨_, Heap.get?_push_size _ rfl, rfl, rfl⟩, new default, q⟩⟩
theorem its_facts {a : Addr} {vs : List V} {Hb : Hp} : ∀ {k : Bool}, SqK k K Hb a vs → (∀ i Hx, i < vs.length → Same Hb Hx → (ItsK k K a).go i Hx) ∧ (∀ Hx, Same Hb Hx → (ItsK k K a).stop vs.length Hx) ∧ ∀ i Hx x Hx', Same Hb Hx → (ItsK k K a).yld i Hx x Hx' → Hx' = Hx ∧ vs[i]? = some x
  | true, h => ⟨fun i Hx hi s => ⟨vs, vs[i], sqL_mono s h, List.getElem?_eq_getElem hi⟩, fun Hx s => ⟨vs, sqL_mono s h, Nat.le_refl _⟩, fun i Hx x Hx' s y => ⟨y.1, y.2 vs (sqL_mono s h)⟩⟩
  | false, h => ⟨fun i Hx hi s => ⟨vs, vs[i], sqT_mono s h, List.getElem?_eq_getElem hi⟩, fun Hx s => ⟨vs, sqT_mono s h, Nat.le_refl _⟩, fun i Hx x Hx' s y => ⟨y.1, y.2 vs (sqT_mono s h)⟩⟩
/-- the items stand as slots -/
def SqR (K : PySem.W.Frag) (He H0 Hb : Hp) (k : Bool) (a : Addr) (ts : List T) (o : Og) : Prop := ∃ vs, SqK k K Hb a vs ∧ vs.length = ts.length ∧ ∀ (i : Nat) (t : T), ts[i]? = some t → ∃ w, vs[i]? = some w ∧ SlV K He H0 Hb (slOf t o) w
theorem wlk_seq {k : Bool} {a : Addr} {ts : List T} {Hb : Hp} {j : Nat} (h : SqR K He H0 Hb k a ts o) : Wlk K He H0 Hb (ItsK k K a) (gName j) (ts.map fun t => [(j, slOf t o)]) := by
  obtain ⟨vs, h1, h2, h3⟩ := h
  obtain ⟨f1, f2, f3⟩ := its_facts h1
  refine ⟨fun i Hx hi s => f1 i Hx (by rw [List.length_map] at hi; omega) s, fun Hx s => ?_, fun i it Hx x Hx' hi s y => ?_⟩
  · rw [List.length_map, ← h2]
    exact f2 Hx s
  · obtain ⟨e1, e2⟩ := f3 i Hx x Hx' s y
    subst e1
    rw [List.getElem?_map] at hi
    obtain ⟨t, ht, e3⟩ := Option.map_eq_some_iff.mp hi
    subst e3
    obtain ⟨w, g1, g2⟩ := h3 i t ht
    rw [e2] at g1
    cases g1
    exact ⟨.inl rfl, [x], ⟨x, [], rfl, g2, rfl⟩, fun σ Q q => q⟩
theorem wlk_rng {lo : Int} {m j : Nat} {Hb : Hp} {xs : List Int} (hx : xs = (List.range m).map fun (k : Nat) => lo + (k : Int)) : Wlk K He H0 Hb (Itr lo m) (gName j) (xs.map fun k => [(j, .sh (.int k))]) := by
  subst hx
  refine ⟨fun i Hx hi s => ?_, fun Hx s => ?_, fun i it Hx x Hx' hi s y => ?_⟩
  · show i < m
    simpa using hi
  · show m ≤ _
    simp
  · obtain ⟨e1, e2⟩ := y
    subst e1 e2
    rw [List.getElem?_map, List.getElem?_map] at hi
    have hm : i < m := by
      by_cases hm : i < m
      · exact hm
      · rw [List.getElem?_eq_none (by simpa using hm)] at hi
        cases hi
    rw [List.getElem?_range hm] at hi
    have e : it = [(j, .sh (.int (lo + (i : Int))))] := (Option.some.inj hi).symm
    subst e
    exact ⟨.inl rfl, [.int (lo + (i : Int))], ⟨_, [], rfl, by
      show Rep K H0 _ _
      unfold Rep
      rfl, rfl⟩, fun σ Q q => q⟩
theorem zipS_get {i j : Nat} {oa ob : Og} : ∀ {ts us : List T} {k : Nat} {it : List (Nat × Sl)}, (zipS i j oa ob ts us)[k]? = some it → ∃ t u, ts[k]? = some t ∧ us[k]? = some u ∧ it = [(i, slOf t oa), (j, slOf u ob)]
  | [], _, k, it, h => by simp [zipS] at h
  | t :: ts, [], k, it, h => by simp [zipS] at h
  | t :: ts, u :: us, 0, it, h => ⟨t, u, rfl, rfl, by
    have h : some _ = some it := h
    exact (Option.some.inj h).symm⟩
  | t :: ts, u :: us, k + 1, it, h => by
    have h : (zipS i j oa ob ts us)[k]? = some it := by simpa [zipS] using h
    obtain ⟨a, b, e1, e2, e3⟩ := zipS_get h
    exact ⟨a, b, by simpa using e1, by simpa using e2, e3⟩
theorem zipS_len {i j : Nat} {oa ob : Og} : ∀ {ts us : List T}, (zipS i j oa ob ts us).length = min ts.length us.length
  | [], _ => by simp [zipS]
  | t :: ts, [] => by simp [zipS]
  | t :: ts, u :: us => by
    simp only [zipS, List.length_cons, zipS_len (ts := ts) (us := us)]
    omega
def gZip (K : PySem.W.Frag) (i j : Nat) : TG := gTup K 2 (gCons (gName i) (gCons (gName j) gNil))
theorem wlk_zip {k l : Bool} {a b : Addr} {ts us : List T} {oa ob : Og} {Hb : Hp} {i j : Nat} (h : SqR K He H0 Hb k a ts oa) (h' : SqR K He H0 Hb l b us ob) : Wlk K He H0 Hb (ItzK k l K a b) (gZip K i j) (zipS i j oa ob ts us) := by
  obtain ⟨vs, h1, h2, h3⟩ := h
  obtain ⟨ws, h4, h5, h6⟩ := h'
  refine ⟨fun m Hx hi s => ?_, fun Hx s => ?_, fun m it Hx x Hx' hi s y => ?_⟩
  · rw [zipS_len] at hi
    have q1 : m < vs.length := by omega
    have q2 : m < ws.length := by omega
    exact ⟨vs, ws, vs[m], ws[m], sqK_mono s h1, sqK_mono s h4, List.getElem?_eq_getElem q1, List.getElem?_eq_getElem q2⟩
  · rw [zipS_len]
    exact ⟨vs, ws, sqK_mono s h1, sqK_mono s h4, by omega, by omega, by omega⟩
  · obtain ⟨p, x1, x2, e1, e2, e3, e4, e5⟩ := y
    subst e1
    obtain ⟨t, u, q1, q2, e⟩ := zipS_get hi
    subst e
    obtain ⟨w1, g1, g2⟩ := h3 m t q1
    obtain ⟨w2, g3, g4⟩ := h6 m u q2
    have z1 := e4 vs (sqK_mono s h1)
    have z2 := e5 ws (sqK_mono s h4)
    rw [z1] at g1
    rw [z2] at g3
    cases g1
    cases g3
    refine ⟨.inr ⟨p, _, e2, e3⟩, [x1, x2], ⟨_, _, rfl, g2, _, _, rfl, g4, rfl⟩, fun σ Q q => ?_⟩
    subst e3
    exact ⟨p, [x1, x2], rfl, .inl (.inl upd_same), rfl, x1, [x2], rfl, x2, [], rfl, rfl, q⟩
/-- what stood ahead and is not frozen, out of sight -/
def hid (He H0 H : Hp) : Hp := fun a => match He a, H0 a with
  | some _, none => none
  | _, _ => H a
theorem hid_fr {a : Addr} (h : He a = none) : hid He H0 H a = H a := by
  unfold hid
  rw [h]
theorem hid_old {a : Addr} {ob : HO} (h : H0 a = some ob) : hid He H0 H a = H a := by
  unfold hid
  rw [h]
  cases He a <;> rfl
theorem hid_same : Same (hid He H0 H) H := fun a ob e => by
  unfold hid at e
  split at e
  · cases e
  · exact e
theorem same_hid (le : Same H0 H) : Same H0 (hid He H0 H) := fun a ob e => by
  rw [hid_old e]
  exact le a ob e
/-- the items of what is walked -/
theorem VR.itemN {ts : List T} (x : Ext H0 H H0' H') (r : VR K He H H0' H' o (.lst ts) v) : ∃ a, v = .ref a ∧ SqR K He (PT.frzN H H0' H') (hid He (PT.frzN H H0' H') H') true a ts o.item := by
  cases o with
  | fr d =>
    obtain ⟨f, a, b, c⟩ := r
    have q := own_rep (same_frzN x.le) d _ v f (fun y hy => frzN_new (c y hy).1) a
    unfold Rep at q
    obtain ⟨a, vs, e1, e2, e3⟩ := q
    exact ⟨a, e1, vs, .inl (.inl (same_hid (frzN_same x.le) _ _ e2)), reps_len e3, fun i t hi => reps_get e3 hi⟩
  | bor d =>
    obtain ⟨f, a, b⟩ := r
    cases d with
    | zero =>
      have q := a.2
      unfold Rep at q
      obtain ⟨a, vs, e1, e2, e3⟩ := q
      exact ⟨a, e1, vs, .inl (.inl (same_hid (frzN_same x.le) _ _ (same_frzN x.le _ _ e2))), reps_len e3, fun i t hi => reps_get (reps_mono (same_frzN x.le) _ _ e3) hi⟩
    | succ d =>
      obtain ⟨a, vs, g, e1, e2, e3, o⟩ := a
      refine ⟨a, e1, vs, .inl (.inl ((hid_fr (b a (e3 ▸ List.mem_cons_self))).trans e2)), o.len, fun i t hi => ?_⟩
      obtain ⟨w, f2, h1, h2, h3⟩ := o.get hi
      refine ⟨w, h1, ?_⟩
      have h4 := own_imp (H' := hid He (PT.frzN H H0' H') H') (same_frzN (H := H) x.le) d t w f2 (fun y hy => hid_fr (b y (e3 ▸ List.mem_cons_of_mem _ (h3 y hy)))) h2
      cases d with
      | zero => exact h4.2
      | succ d => exact ⟨f2, h4, fun y hy => b y (e3 ▸ List.mem_cons_of_mem _ (h3 y hy))⟩
theorem iL_get {xs : List Int} {i : Nat} {t : T} (h : (iL xs)[i]? = some t) : ∃ k, xs[i]? = some k ∧ t = .int k := by
  rw [List.getElem?_map] at h
  obtain ⟨k, h1, h2⟩ := Option.map_eq_some_iff.mp h
  exact ⟨k, h1, h2.symm⟩
theorem seq_of {k : List T → Og → Prop} (x : Ext H0 H H0' H') (r : VR K He H H0' H' o t v) (h : seqT t o k) : ∃ ts o' b a, k ts o' ∧ v = .ref a ∧ SqR K He (PT.frzN H H0' H') (hid He (PT.frzN H H0' H') H') b a ts o' := by
  cases t with
  | lst ts =>
    obtain ⟨a, e, q⟩ := r.itemN x
    exact ⟨ts, _, true, a, h, e, q⟩
  | tup ts =>
    obtain ⟨a, vs, e1, e2, e3⟩ := r.tup
    exact ⟨ts, _, false, a, h, e1, vs, sqT_mono ((same_frzN x.le).trans (same_hid (frzN_same x.le))) e2, reps_len e3, fun i t hi => reps_get (reps_mono (same_frzN x.le) _ _ e3) hi⟩
  | scr ts =>
    obtain ⟨a, e1, e2⟩ := r.scr
    refine ⟨iL ts, _, true, a, h, e1, _, sqL_mono ((same_frzN x.le).trans (same_hid (frzN_same x.le))) e2, by simp, fun i t hi => ?_⟩
    obtain ⟨m, h1, h2⟩ := iL_get hi
    subst h2
    exact ⟨.int m, by rw [List.getElem?_map, h1]; rfl, by
      show Rep K _ _ _
      unfold Rep
      rfl⟩
  | _ => exact h.elim
theorem seqF_of {k : List T → Og → Prop} (x : Ext H0 H H0' H') (r : VR K He H H0' H' o t v) (hf : frzO o) (h : seqT t (.bor 0) k) : ∃ ts b a, k ts (.bor 0) ∧ v = .ref a ∧ SqR K He (PT.frzN H H0' H') (PT.frzN H H0' H') b a ts (.bor 0) := by
  have rp : Rep K (PT.frzN H H0' H') t v := by
    cases o with
    | fr d =>
      obtain ⟨f, a, b, c⟩ := r
      exact own_rep (same_frzN x.le) d _ v f (fun y hy => frzN_new (c y hy).1) a
    | bor d =>
      obtain ⟨f, a, b⟩ := r
      cases d with
      | zero => exact rep_mono (same_frzN x.le) _ _ a.2
      | succ d => exact hf.elim
  cases t with
  | lst ts =>
    unfold Rep at rp
    obtain ⟨a, vs, e1, e2, e3⟩ := rp
    exact ⟨ts, true, a, h, e1, vs, .inl (.inl e2), reps_len e3, fun i t hi => reps_get e3 hi⟩
  | tup ts =>
    unfold Rep at rp
    obtain ⟨a, vs, e1, e2, e3⟩ := rp
    exact ⟨ts, false, a, h, e1, vs, e2, reps_len e3, fun i t hi => reps_get e3 hi⟩
  | scr ts =>
    unfold Rep at rp
    obtain ⟨a, e1, e2⟩ := rp
    refine ⟨iL ts, true, a, h, e1, _, e2, by simp, fun i t hi => ?_⟩
    obtain ⟨m, h1, h2⟩ := iL_get hi
    subst h2
    exact ⟨.int m, by rw [List.getElem?_map, h1]; rfl, by
      show Rep K _ _ _
      unfold Rep
      rfl⟩
  | _ => exact h.elim
theorem SqR.mono {H0n Hn : Hp} {k : Bool} {a : Addr} {ts : List T} (h : SqR K He H0 H k a ts o) (s0 : Same H0 H0n) (s1 : Same H Hn) : SqR K He H0n Hn k a ts o := by
  obtain ⟨vs, h1, h2, h3⟩ := h
  refine ⟨vs, sqK_mono s1 h1, h2, fun i t hi => ?_⟩
  obtain ⟨w, g1, g2⟩ := h3 i t hi
  exact ⟨w, g1, g2.ext s0 s1⟩
def gOf (K : PySem.W.Frag) : It → TG
  | .seq i _ => gName i
  | .rng i _ => gName i
  | .zip i j _ _ => gZip K i j
/-- a comprehension's source; a statement's (frozen) -/
def trI (Γ : Gam) (rd : Nat → Nat) (K : PySem.W.Frag) (it : It) : L2.TI := fun σ H R => ∃ pn He H0e H0 env fps, StR K pn He H0e H0 H σ env fps ∧ wpI Γ rd it env fun xs => ∀ H0' H' J, Ext H0 H H0' H' → Wlk K He H0' (hid He H0' H') J (gOf K it) xs → R J H'
def trIS (Γ : Gam) (rd : Nat → Nat) (K : PySem.W.Frag) (it : It) : L2.TI := fun σ H R => ∃ pn He H0e H0 env fps, StR K pn He H0e H0 H σ env fps ∧ wpIS Γ rd it env fun xs => ∀ H0' H' J, Ext H0 H H0' H' → Wlk K He H0' H0' J (gOf K it) xs → R J H'
theorem PI.mono {tg e : Expr} {w w' : L2.TI} (h : PI X tg e w) (k : ∀ σ H R, w' σ H R → w σ H R) : PI X tg e w' := ⟨fun pins s σ H R I q => h.run pins s σ H R I (k σ H R q)⟩
theorem i_seq (M : Γ.Mono) {tg e : Expr} {te : TE} {i : Nat} (he : PE X e (trE Γ rd X.K te)) : PI X tg e (trI Γ rd X.K (.seq i te)) := by
  refine PI.mono (pi_seqK he) fun σ H R h => ?_
  obtain ⟨pn, He, H0e, H0, env, fps, S, h⟩ := h
  unfold wpI at h
  refine trE_of M S h fun t o H1 H' v x r q => ?_
  obtain ⟨ts, o', b, a, q, e, sq⟩ := seq_of x r q
  obtain ⟨vs, s1, _⟩ := id sq
  exact ⟨b, a, vs, e, sqK_mono hid_same s1, q _ _ _ x.frzN (wlk_seq sq)⟩
theorem is_seq (M : Γ.Mono) {tg e : Expr} {te : TE} {i : Nat} (he : PE X e (trE Γ rd X.K te)) : PI X tg e (trIS Γ rd X.K (.seq i te)) := by
  refine PI.mono (pi_seqK he) fun σ H R h => ?_
  obtain ⟨pn, He, H0e, H0, env, fps, S, h⟩ := h
  unfold wpIS at h
  refine trE_of M S h fun t o H1 H' v x r q => ?_
  obtain ⟨ts, b, a, q, e, sq⟩ := seqF_of x r q.1 q.2
  obtain ⟨vs, s1, _⟩ := id sq
  exact ⟨b, a, vs, e, sqK_mono x.frzN.le s1, q _ _ _ x.frzN (wlk_seq sq)⟩
theorem rngT_of {l : List (T × Og)} {vs : List V} {k : Int → Int → Prop} (r : VRs K He H0' H' H l vs) (h : rngT l k) : (∃ j : Int, vs = [.int j] ∧ -(2 ^ 62) ≤ j ∧ j < 2 ^ 62 ∧ k 0 j) ∨ ∃ i j : Int, vs = [.int i, .int j] ∧ (-(2 ^ 62) ≤ i ∧ i < 2 ^ 62 ∧ -(2 ^ 62) ≤ j ∧ j < 2 ^ 62) ∧ k i j := by
  unfold rngT at h
  split at h
  · obtain ⟨v, e, r⟩ := r.one
    exact .inl ⟨_, by rw [e, r.int], h.1.1, h.1.2, h.2⟩
  · obtain ⟨v, w, e, r1, r2⟩ := r.pair
    exact .inr ⟨_, _, by rw [e, r1.int, r2.int], h.1, h.2⟩
  · exact h.elim
theorem i_rng1 (M : Γ.Mono) (G : Good c n C X N sc) {tg e : Expr} {p pos : Pos} {ts : TEs} {i : Nat} (hr : sc.names.lookup ("range" : Str) = some .globalImplicit) (hp : nst e = true) (he : PA X [e] (trA Γ rd X.K ts)) (hl : ts.len = 1) :
    PI X tg (.Call (.Name "range" p) [e] [] pos) (trI Γ rd X.K (.rng i ts)) ∧ PI X tg (.Call (.Name "range" p) [e] [] pos) (trIS Γ rd X.K (.rng i ts)) := by
  have q1 : starEach [e] X.env = [(false, eval e X.env)] := by cases e <;> first | rfl | cases hp
  have key : ∀ {Hf : Hp → Hp → Hp → Hp} {σ H R}, (∃ pn He H0e H0 env fps, StR X.K pn He H0e H0 H σ env fps ∧ wpEs Γ rd ts env fun l => rngT l fun a b => ∀ H0' H' J, Ext H0 H H0' H' → Wlk X.K He H0' (Hf He H0' H') J (gName i) ((rgL a b).map fun k => [(i, .sh (.int k))]) → R J H') → iRng1 (trA Γ rd X.K ts) σ H R := fun {Hf σ H R} h => by
    obtain ⟨pn, He, H0e, H0, env, fps, S, h⟩ := h
    refine trA_of M S (wpEs_len M h) fun l H1 H' vs x r q => ?_
    obtain ⟨l1, q⟩ := q
    have l2 := trA_len r
    rcases rngT_of r q with ⟨j, e, b1, b2, q⟩ | ⟨j, k, e, _⟩
    · exact ⟨j, e, b1, b2, q _ _ _ x (wlk_rng (by unfold rgL; simp))⟩
    · rw [e, l1, hl] at l2
      cases l2
  exact ⟨PI.mono (pi_range1 (G.gl hr) (G.blt _ (by decide +kernel)) he q1) fun σ H R h => key (Hf := fun e a b => hid e a b) (by
    obtain ⟨pn, He, H0e, H0, env, fps, S, h⟩ := h
    unfold wpI at h
    exact ⟨pn, He, H0e, H0, env, fps, S, h⟩), PI.mono (pi_range1 (G.gl hr) (G.blt _ (by decide +kernel)) he q1) fun σ H R h => key (Hf := fun _ a _ => a) (by
    obtain ⟨pn, He, H0e, H0, env, fps, S, h⟩ := h
    unfold wpIS at h
    exact ⟨pn, He, H0e, H0, env, fps, S, h⟩)⟩
theorem i_rng2 (M : Γ.Mono) (G : Good c n C X N sc) {tg e e2 : Expr} {p pos : Pos} {ts : TEs} {i : Nat} (hr : sc.names.lookup ("range" : Str) = some .globalImplicit) (hp : nst e = true) (hp2 : nst e2 = true) (he : PA X [e, e2] (trA Γ rd X.K ts)) (hl : ts.len = 2) :
    PI X tg (.Call (.Name "range" p) [e, e2] [] pos) (trI Γ rd X.K (.rng i ts)) ∧ PI X tg (.Call (.Name "range" p) [e, e2] [] pos) (trIS Γ rd X.K (.rng i ts)) := by
  have q2 : starEach [e2] X.env = [(false, eval e2 X.env)] := by cases e2 <;> first | rfl | cases hp2
  have q1 : starEach [e, e2] X.env = [(false, eval e X.env), (false, eval e2 X.env)] := by rw [star_of' hp, q2]
  have key : ∀ {Hf : Hp → Hp → Hp → Hp} {σ H R}, (∃ pn He H0e H0 env fps, StR X.K pn He H0e H0 H σ env fps ∧ wpEs Γ rd ts env fun l => rngT l fun a b => ∀ H0' H' J, Ext H0 H H0' H' → Wlk X.K He H0' (Hf He H0' H') J (gName i) ((rgL a b).map fun k => [(i, .sh (.int k))]) → R J H') → iRng2 (trA Γ rd X.K ts) σ H R := fun {Hf σ H R} h => by
    obtain ⟨pn, He, H0e, H0, env, fps, S, h⟩ := h
    refine trA_of M S (wpEs_len M h) fun l H1 H' vs x r q => ?_
    obtain ⟨l1, q⟩ := q
    have l2 := trA_len r
    rcases rngT_of r q with ⟨j, e, _⟩ | ⟨j, k, e, b, q⟩
    · rw [e, l1, hl] at l2
      cases l2
    · exact ⟨j, k, e, b, q _ _ _ x (wlk_rng (by unfold rgL; rfl))⟩
  exact ⟨PI.mono (pi_range2 (G.gl hr) (G.blt _ (by decide +kernel)) he q1 q2) fun σ H R h => key (Hf := fun e a b => hid e a b) (by
    obtain ⟨pn, He, H0e, H0, env, fps, S, h⟩ := h
    unfold wpI at h
    exact ⟨pn, He, H0e, H0, env, fps, S, h⟩), PI.mono (pi_range2 (G.gl hr) (G.blt _ (by decide +kernel)) he q1 q2) fun σ H R h => key (Hf := fun _ a _ => a) (by
    obtain ⟨pn, He, H0e, H0, env, fps, S, h⟩ := h
    unfold wpIS at h
    exact ⟨pn, He, H0e, H0, env, fps, S, h⟩)⟩
theorem i_zip (M : Γ.Mono) (G : Good c n C X N sc) {e e2 : Expr} {p pos tpos : Pos} {elts : List Expr} {m : Nat} {ta tb : TE} {i j : Nat} (hz : sc.names.lookup ("zip" : Str) = some .globalImplicit) (hp : nst e = true) (hp2 : nst e2 = true) (ha : PE X e (trE Γ rd X.K ta)) (hb : PE X e2 (trE Γ rd X.K tb)) :
    PI X (.Tuple elts m tpos) (.Call (.Name "zip" p) [e, e2] [] pos) (trI Γ rd X.K (.zip i j ta tb)) ∧ PI X (.Tuple elts m tpos) (.Call (.Name "zip" p) [e, e2] [] pos) (trIS Γ rd X.K (.zip i j ta tb)) := by
  have q2 : starEach [e2] X.env = (false, eval e2 X.env) :: starEach [] X.env := star_of' hp2
  have q1 : starEach [e, e2] X.env = (false, eval e X.env) :: starEach [e2] X.env := star_of' hp
  have P := pi_zipK (X := X) (p := p) (pos := pos) (tpos := tpos) (elts := elts) (m := m) (G.gl hz) (G.blt _ (by decide +kernel)) (pa_cons ha (pa_cons hb pa_nil q2) q1) q1 (any_star (es := [e2]) (by rw [List.all_cons, hp2]; rfl))
  refine ⟨PI.mono P fun σ H R h => ?_, PI.mono P fun σ H R h => ?_⟩
  · obtain ⟨pn, He, H0e, H0, env, fps, S, h⟩ := h
    unfold wpI at h
    refine two_of M S h fun t o u o' H1 H' v w x r1 r2 q => ?_
    obtain ⟨ts, p1, b1, a1, q, e1, s1⟩ := seq_of x r1 q
    obtain ⟨us, p2, b2, a2, q, e3, s2⟩ := seq_of x r2 q
    obtain ⟨vs, z1, _⟩ := id s1
    obtain ⟨ws, z2, _⟩ := id s2
    exact ⟨b1, b2, a1, a2, vs, ws, by rw [e1, e3], sqK_mono hid_same z1, sqK_mono hid_same z2, q _ _ _ x.frzN (wlk_zip s1 s2)⟩
  · obtain ⟨pn, He, H0e, H0, env, fps, S, h⟩ := h
    unfold wpIS at h
    refine two_of M S h fun t o u o' H1 H' v w x r1 r2 q => ?_
    obtain ⟨f1, f2, q⟩ := q
    obtain ⟨ts, b1, a1, q, e1, s1⟩ := seqF_of x r1 f1 q
    obtain ⟨us, b2, a2, q, e3, s2⟩ := seqF_of x r2 f2 q
    obtain ⟨vs, z1, _⟩ := id s1
    obtain ⟨ws, z2, _⟩ := id s2
    exact ⟨b1, b2, a1, a2, vs, ws, by rw [e1, e3], sqK_mono x.frzN.le z1, sqK_mono x.frzN.le z2, q _ _ _ x.frzN (wlk_zip s1 s2)⟩
end
end PT

namespace PT
open PySem PySem.Spec PyProof.Rows L2
section
variable {c : Cfg} {n : Nat} {C : CXT} {X : Cx} {N : List Str} {sc : Scope}
variable {pn : List (Nat × V)} {K : PySem.W.Frag} {He H0e H0 H H0' H' H0'' H'' : Hp} {σ : L2.St} {env : Env} {fps : Nat → List Addr} {t : T} {v : V} {o : Og}
variable {Γ : Gam} {rd : Nat → Nat}
theorem wipe_get {σ : L2.St} {k : Nat} : ∀ {vs : List Nat}, (L2.wipe σ vs)[k]? = if k ∈ vs then (if k < σ.length then some none else none) else σ[k]?
  | [] => by simp [L2.wipe]
  | v :: vs => by
    unfold L2.wipe
    by_cases e : v = k
    · subst e
      rw [if_pos List.mem_cons_self]
      by_cases h : v < σ.length
      · rw [if_pos h, List.getElem?_set_self (by rw [L2.wipe_length]; exact h)]
      · rw [if_neg h]
        exact List.getElem?_eq_none (by rw [List.length_set, L2.wipe_length]; omega)
    · rw [List.getElem?_set_ne e, wipe_get (vs := vs)]
      by_cases m : k ∈ vs
      · rw [if_pos m, if_pos (List.mem_cons_of_mem _ m)]
      · rw [if_neg m, if_neg (by simp [m, Ne.symm e])]
theorem sets_get : ∀ {l : List (Nat × Sl)} {vs : List V} {σ : L2.St} {k : Nat}, k ∉ l.map (·.1) → (sets σ l vs)[k]? = σ[k]?
  | [], _, _, _, _ => rfl
  | (i, s) :: r, [], σ, k, _ => rfl
  | (i, s) :: r, v :: vs, σ, k, h => by
    have h : k ≠ i ∧ k ∉ r.map (·.1) := by simpa using h
    show (sets (σ.set i (some v)) r vs)[k]? = σ[k]?
    rw [sets_get h.2, List.getElem?_set_ne (Ne.symm h.1)]
theorem wipe_sets {is : List Nat} {l : List (Nat × Sl)} {vs : List V} (h : ∀ p ∈ l, p.1 ∈ is) : L2.wipe (sets (L2.wipe σ is) l vs) is = L2.wipe σ is := by
  apply List.ext_getElem?
  intro k
  rw [wipe_get, wipe_get]
  by_cases m : k ∈ is
  · rw [if_pos m, if_pos m, len_sets, L2.wipe_length]
  · rw [if_neg m, if_neg m, sets_get fun hm => m ?_, wipe_get, if_neg m]
    obtain ⟨p, hp, e⟩ := List.mem_map.mp hm
    rw [← e]
    exact h p hp
def trC (Γ : Gam) (rd : Nat → Nat) (K : PySem.W.Frag) (e : TEs) : TT := fun σ H Q => ∃ pn He H0e H0 env fps, StR K pn He H0e H0 H σ env fps ∧ wpC Γ rd e env fun b => ∀ H0' H', Ext H0 H H0' H' → Q b H'
/-- a comprehension's new list so far -/
structure LcR (K : PySem.W.Frag) (Hb0 Hb Hc0 Hc : Hp) (D : Addr) (d : Nat) (H0 H : Hp) (acc : List T) (vs : List V) (f : List Addr) : Prop where
  ext : Ext Hb0 Hb H0 H
  d0 : H0 D = none
  db : Hb D = none
  dh : H D = some (.lst vs)
  own : Owns (Own K H0 H d) acc vs f
  nd : f.Nodup
  fr : ∀ a ∈ f, Hb a = none ∧ H0 a = none ∧ a ≠ D
  c0 : Same Hc0 H0
  c : Same Hc H
  cd : Hc D = none
theorem owns_in {d : Nat} : ∀ {ts : List T} {vs : List V} {f : List Addr}, Owns (Own K H0 H d) ts vs f → ∀ b ∈ f, ∃ xs, H b = some (.lst xs)
  | [], vs, f, o, b, hb => by
    rw [o.2] at hb
    cases hb
  | t :: ts, vs, f, o, b, hb => by
    obtain ⟨v, r, f1, f2, e1, e2, p, o⟩ := o
    subst e2
    rcases List.mem_append.mp hb with hb | hb
    · exact own_in _ t v f1 p b hb
    · exact owns_in o b hb
theorem LcR.mono {Hb0 Hb Hc0 Hc : Hp} {D : Addr} {d : Nat} {acc : List T} {vs : List V} {f : List Addr} (L : LcR K Hb0 Hb Hc0 Hc D d H0 H acc vs f) (x : Ext H0 H H0' H') : LcR K Hb0 Hb Hc0 Hc D d H0' H' acc vs f := by
  refine ⟨L.ext.trans x, (x.nw D _ L.dh).trans L.d0, L.db, x.s _ _ L.dh, L.own.imp fun t v g hg q => q.ext x, L.nd, fun a ha => ?_, L.c0.trans x.s0, L.c.trans x.s, L.cd⟩
  obtain ⟨xs, e⟩ := owns_in L.own a ha
  exact ⟨(L.fr a ha).1, (x.nw a _ e).trans (L.fr a ha).2.1, (L.fr a ha).2.2⟩
theorem Ext.setD {Hb0 Hb : Hp} {D : Addr} {ob : HO} (x : Ext Hb0 Hb H0 H) (db : Hb D = none) (d0 : H0 D = none) : Ext Hb0 Hb H0 (upd H D ob) :=
  ⟨fun a u q => by rw [upd_ne (ne_of_none q db)]; exact x.s a u q, x.s0, fun a u q => by rw [upd_ne (ne_of_none q d0)]; exact x.le a u q, x.nw⟩
theorem LcR.push {Hb0 Hb Hc0 Hc : Hp} {D : Addr} {d : Nat} {acc : List T} {vs : List V} {f : List Addr} {k : Prop} (L : LcR K Hb0 Hb Hc0 Hc D d H0 H acc vs f) (hb : Same He Hb) (x : Ext H0 H H0' H') (r : VR K He H H0' H' o t v) (h : keep d t o k) :
    k ∧ ∃ H0n f', LcR K Hb0 Hb Hc0 Hc D d H0n (upd H' D (.lst (vs ++ [v]))) (acc ++ [t]) (vs ++ [v]) f' := by
  have neD : ∀ {ts : List T} {vs : List V} {f : List Addr} {H0n : Hp}, (∀ a ∈ f, a ≠ D) → Owns (Own K H0n H' d) ts vs f → Owns (Own K H0n (upd H' D (.lst (vs ++ [v]))) d) ts vs f := fun hn o =>
    o.imp fun t v g hg q => own_imp (Same.refl _) d t v g (fun a ha => upd_ne (hn a (hg a ha))) q
  cases d with
  | zero =>
    obtain ⟨hk, rp⟩ := r.taken x h
    have L2 := L.mono x.frzN
    have d0 : PT.frzN H H0' H' D = none := L2.d0
    have hf : f = [] := by
      cases f with
      | nil => rfl
      | cons a f =>
        obtain ⟨xs, e⟩ := owns_in L.own a List.mem_cons_self
        have key : ∀ {ts : List T} {vs : List V} {f : List Addr}, Owns (Own K H0 H 0) ts vs f → f = [] := by
          intro ts
          induction ts with
          | nil => exact fun o => o.2
          | cons t ts ih =>
            intro vs f o
            obtain ⟨v, r, f1, f2, e1, e2, p, o⟩ := o
            rw [e2, p.1, ih o]
            rfl
        exact absurd (key L.own) (by simp)
    subst hf
    refine ⟨hk, PT.frzN H H0' H', [], ⟨L2.ext.setD L2.db d0, d0, L2.db, upd_same, ?_, .nil, fun a ha => (by cases ha), L2.c0, fun a u q => (by rw [upd_ne (ne_of_none q L2.cd)]; exact L2.c a u q), L2.cd⟩⟩
    have o2 : Owns (Own K (PT.frzN H H0' H') (upd H' D (.lst (vs ++ [v]))) 0) acc vs [] := L2.own.imp fun t v g hg q => q
    have := Owns.append o2 (us := [t]) (ws := [v]) (g := []) ⟨v, [], [], [], rfl, rfl, ⟨rfl, rp⟩, rfl, rfl⟩
    exact this
  | succ d =>
    have L2 := L.mono x
    have flat : t.isLst = false → Own K H0' H' (d + 1) t v [] := fun hf => own_flat hf (r.rep hf)
    have main : (∃ g, Own K H0' H' (d + 1) t v g ∧ g.Nodup ∧ ∀ a ∈ g, H a = none ∧ H0' a = none) ∧ k := by
      cases o with
      | fr e =>
        cases t with
        | lst ts =>
          obtain ⟨e0, h2⟩ := h
          rcases e0 with e0 | ⟨e0, e0'⟩
          · subst e0
            exact ⟨r, h2⟩
          · obtain ⟨g, z1, z2⟩ := r
            exact ⟨⟨g, own_flatL e0 e0' z1, z2⟩, h2⟩
        | _ => exact ⟨⟨[], flat rfl, .nil, fun a ha => by cases ha⟩, h⟩
      | bor e =>
        cases t with
        | lst ts => exact h.elim
        | _ => exact ⟨⟨[], flat rfl, .nil, fun a ha => by cases ha⟩, h⟩
    obtain ⟨⟨g, w1, w2, w3⟩, hk⟩ := main
    have gD : ∀ a ∈ g, a ≠ D := fun a ha z => by
      have := (w3 a ha).1
      rw [z, L.dh] at this
      cases this
    refine ⟨hk, H0', f ++ g, ⟨L2.ext.setD L2.db L2.d0, L2.d0, L2.db, upd_same, ?_, List.nodup_append.mpr ⟨L2.nd, w2, fun a ha b hb z => ?_⟩, fun a ha => ?_, L2.c0, fun a u q => (by rw [upd_ne (ne_of_none q L2.cd)]; exact L2.c a u q), L2.cd⟩⟩
    · have o2 : Owns (Own K H0' (upd H' D (.lst (vs ++ [v]))) (d + 1)) acc vs f := L2.own.imp fun t v g hg q => own_imp (Same.refl _) (d + 1) t v g (fun a ha => upd_ne (L2.fr a (hg a ha)).2.2) q
      exact Owns.append o2 (us := [t]) (ws := [v]) (g := g) ⟨v, [], g, [], rfl, by simp, own_imp (Same.refl _) (d + 1) t v g (fun a ha => upd_ne (gD a ha)) w1, rfl, rfl⟩
    · obtain ⟨xs, e⟩ := owns_in L.own a ha
      have := (w3 b hb).1
      rw [← z, e] at this
      cases this
    · rcases List.mem_append.mp ha with z | z
      · exact L2.fr a z
      · exact ⟨L.ext.s.free (w3 a z).1, (w3 a z).2, gD a z⟩
theorem LcR.done {Hc0 Hc : Hp} {D : Addr} {d : Nat} {acc : List T} {vs : List V} {f : List Addr} (L : LcR K H0' H' Hc0 Hc D d H0'' H'' acc vs f) (s : Same H H') : VR K He H H0'' H'' (.fr (d + 1)) (.lst acc) (.ref D) :=
  ⟨D :: f, ⟨D, vs, f, rfl, L.dh, rfl, L.own⟩, List.nodup_cons.mpr ⟨fun h => (L.fr D h).2.2 rfl, L.nd⟩, fun a ha => by
    rcases List.mem_cons.mp ha with z | z
    · rw [z]; exact ⟨s.free L.db, L.d0⟩
    · exact ⟨s.free (L.fr a z).1, (L.fr a z).2.1⟩⟩
theorem Ext.turn {p : Addr} {ob : HO} (le : Same H0 H) (h : H' = H ∨ ∃ p o, H p = none ∧ H' = upd H p o) : Ext H0 H H0 H' := by
  rcases h with e | ⟨p, o, hp, e⟩
  · subst e
    exact Ext.refl le
  · subst e
    exact Ext.new le hp
theorem drop_cons {α : Type} {xs : List α} {i : Nat} (h : i < xs.length) : xs.drop i = xs[i] :: xs.drop (i + 1) := List.drop_eq_getElem_cons h
def itOk (it : It) (xs : List (List (Nat × Sl))) : Prop := ∀ x ∈ xs, ∀ p ∈ x, p.1 ∈ it.slots
theorem wpI_ok (M : Γ.Mono) : ∀ {it : It} {env : Env} {Q : List (List (Nat × Sl)) → Prop}, wpI Γ rd it env Q → wpI Γ rd it env fun xs => itOk it xs ∧ Q xs
  | .seq i e, env, Q, h => by
    unfold wpI at h ⊢
    refine wpE_mono M e env _ _ (fun x o => seq_mono fun ts o' q => ⟨fun y hy p hp => ?_, q⟩) h
    obtain ⟨t, _, e⟩ := List.mem_map.mp hy
    subst e
    rw [List.mem_singleton.mp hp]
    exact List.mem_cons_self
  | .rng i es, env, Q, h => by
    unfold wpI at h ⊢
    refine wpEs_mono M es env _ _ (fun l => rng_mono fun a b q => ⟨fun y hy p hp => ?_, q⟩) h
    obtain ⟨t, _, e⟩ := List.mem_map.mp hy
    subst e
    rw [List.mem_singleton.mp hp]
    exact List.mem_cons_self
  | .zip i j a b, env, Q, h => by
    unfold wpI at h ⊢
    refine wpE_mono M a env _ _ (fun x o => wpE_mono M b env _ _ fun y o' => seq_mono fun ts p => seq_mono fun us p' q => ⟨fun y hy p hp => ?_, q⟩) h
    obtain ⟨k, hk⟩ := List.getElem?_of_mem hy
    obtain ⟨t, u, _, _, e⟩ := zipS_get hk
    subst e
    rcases List.mem_cons.mp hp with hp | hp
    · rw [hp]
      exact List.mem_cons_self
    · rw [List.mem_singleton.mp hp]
      exact List.mem_cons_of_mem _ List.mem_cons_self
theorem trC_of (M : Γ.Mono) {e : TEs} {k : Bool → Prop} {Q : Bool → Hp → Prop} (S : StR K pn He H0e H0 H σ env fps) (h : wpC Γ rd e env k) (hk : ∀ b H0' H', Ext H0 H H0' H' → k b → Q b H') : trC Γ rd K e σ H Q :=
  ⟨pn, He, H0e, H0, env, fps, S, wpC_mono M e env _ _ (fun b q H0' H' x => hk b H0' H' x q) h⟩
/-- one turn: the item stored, the tests, the element -/
theorem lc_turn (M : Γ.Mono) {d : Nat} {cs : TEs} {e : TE} {k : List T → Prop} {Hb0 Hb Hc0 Hc : Hp} {D : Addr} {acc : List T} {vs : List V} {f : List Addr} {Nx : Hp → Prop} (S : StR K pn He H0e H0 H σ env fps) (hb : Same He Hb) (L : LcR K Hb0 Hb Hc0 Hc D d H0 H acc vs f)
    (h : wpC Γ rd cs env fun b => if b = true then wpE Γ rd e env fun y o => keep d y o (acc.length < sizeLine ∧ k (acc ++ [y])) else k acc)
    (hn : ∀ H0 H acc vs f, LcR K Hb0 Hb Hc0 Hc D d H0 H acc vs f → k acc → Nx H) :
    trC Γ rd K cs σ H fun b H3 => if b = true then trE Γ rd K e σ H3 fun y H4 => ∃ acc, H4 D = some (.lst acc) ∧ acc.length < sizeLine ∧ Nx (upd H4 D (.lst (acc ++ [y]))) else Nx H3 := by
  refine trC_of M S h fun b H1 H' x q => ?_
  cases b with
  | false => exact hn _ _ _ _ _ (L.mono x) q
  | true =>
    refine trE_of M (S.mono x) q fun y o H2 H'' w x2 r q => ?_
    obtain ⟨⟨hz, q⟩, H0n, f', L2⟩ := (L.mono x).push hb x2 r q
    exact ⟨vs, (L.mono (x.trans x2)).dh, by rw [L.own.len]; exact hz, hn _ _ _ _ _ L2 q⟩
theorem LcR.recast {Hb0 Hb Hc0 Hc : Hp} {D : Addr} {d : Nat} {acc : List T} {vs : List V} {f : List Addr} (L : LcR K Hb0 Hb Hc0 Hc D d H0 H acc vs f) : LcR K Hb0 Hb Hb0 Hb D d H0 H acc vs f :=
  ⟨L.ext, L.d0, L.db, L.dh, L.own, L.nd, L.fr, L.ext.s0, L.ext.s, L.db⟩
theorem LcR.cast {Hb0 Hb Hc0 Hc Hw0 Hw : Hp} {D : Addr} {d : Nat} {acc : List T} {vs : List V} {f : List Addr} (L : LcR K Hb0 Hb Hc0 Hc D d H0 H acc vs f) (h0 : Same Hw0 H0) (h : Same Hw H) (hd : Hw D = none) : LcR K Hb0 Hb Hw0 Hw D d H0 H acc vs f :=
  ⟨L.ext, L.d0, L.db, L.dh, L.own, L.nd, L.fr, h0, h, hd⟩
/-- a loop over a comprehension's source, from what stands to what is wanted -/
theorem lc_loop {J : L2.It} {g : TG} {xs : List (List (Nat × Sl))} {F : List (Nat × Sl) → List T → (List T → Prop) → Prop} {k : List T → Prop} {Hb0 Hb Hw0 Hw : Hp} {D : Addr} {d : Nat} {acc : List T} {vs : List V} {f : List Addr} {Done : Hp → Prop} {B : V → Hp → (Hp → Prop) → Prop}
    (W : Wlk K He Hw0 Hw J g xs) (L : LcR K Hb0 Hb Hw0 Hw D d H0 H acc vs f)
    (hk : lcL F xs acc k) (hdone : ∀ H0 H acc vs f, LcR K Hb0 Hb Hw0 Hw D d H0 H acc vs f → k acc → Done H)
    (hB : ∀ x it vs' H0 H' acc vs f k' Nx, it ∈ xs → SlVs K He Hw0 Hw it vs' → (∀ (σ : L2.St) (Q : L2.St → Hp → Prop), Q (sets σ it vs') H' → g x σ H' Q) → LcR K Hb0 Hb Hw0 Hw D d H0 H' acc vs f → F it acc k' → (∀ H0 H acc vs f, LcR K Hb0 Hb Hw0 Hw D d H0 H acc vs f → k' acc → Nx H) → B x H' Nx) :
    ∃ W : Nat → Nat → Hp → Prop, (∃ m, W 0 m H) ∧ ∀ i m H, W i m H → (J.stop i H ∧ Done H) ∨ (J.go i H ∧ ∃ Nx : Hp → Prop, (∀ H', Nx H' → ∃ m', m' < m ∧ W (i + 1) m' H') ∧ ∀ x H', J.yld i H x H' → B x H' Nx) := by
  refine ⟨fun i m Hx => m = xs.length - i ∧ i ≤ xs.length ∧ ∃ H0x acc vs f, LcR K Hb0 Hb Hw0 Hw D d H0x Hx acc vs f ∧ lcL F (xs.drop i) acc k, ⟨xs.length, by simp, Nat.zero_le _, H0, acc, vs, f, L, by simpa using hk⟩, ?_⟩
  rintro i m Hx ⟨rfl, hi, H0x, acc, vs, f, L, q⟩
  by_cases hlt : i < xs.length
  · rw [drop_cons hlt] at q
    have q : F xs[i] acc fun acc' => lcL F (xs.drop (i + 1)) acc' k := q
    refine .inr ⟨W.goes i Hx hlt L.c, fun Hy => ∃ H0y acc vs f, LcR K Hb0 Hb Hw0 Hw D d H0y Hy acc vs f ∧ lcL F (xs.drop (i + 1)) acc k, fun Hy hy => ⟨xs.length - (i + 1), by omega, rfl, hlt, hy⟩, fun x Hx' hy => ?_⟩
    obtain ⟨ch, vs', sv, run⟩ := W.yields i _ Hx x Hx' (List.getElem?_eq_getElem hlt) L.c hy
    have ex : Ext H0x Hx H0x Hx' := Ext.turn (p := 0) (ob := .own 0) L.ext.le ch
    exact hB x _ vs' H0x Hx' acc vs f _ _ (List.getElem_mem hlt) sv run (L.mono ex) q fun H0 H acc vs f L q => ⟨H0, acc, vs, f, L, q⟩
  · have e : i = xs.length := by omega
    subst e
    rw [List.drop_length] at q
    exact .inl ⟨W.stops Hx L.c, hdone _ _ _ _ _ L q⟩
/-- one more thing that stood ahead: the new list D -/
theorem StR.guard {D : Addr} {ob : HO} (S : StR K pn He H0e H0 H σ env fps) (hD : H D = none) (x : Ext H0 H H0' H') (hd : H' D = some ob) (h0 : H0' D = none) : StR K pn (upd He D ob) H0e H0' H' σ env fps := by
  have S' := S.mono x
  have ne : ∀ {d : Nat} {t : T} {v : V} {f : List Addr}, Own K H0 H d t v f → ∀ a ∈ f, a ≠ D := fun o a ha z => by
    obtain ⟨xs, e⟩ := own_in _ _ _ _ o a ha
    rw [z, hD] at e
    cases e
  refine ⟨⟨fun a u q => ?_, S'.ext.s0, S'.ext.le, fun a u q => ?_⟩, S.len, fun i => ?_, S.nd, S.dj, fun i a ha => ?_, S.pin⟩
  · by_cases e : a = D
    · subst e; rw [upd_same] at q; rw [← q]; exact hd
    · rw [upd_ne e] at q; exact S'.ext.s a u q
  · by_cases e : a = D
    · subst e
      rw [h0, S'.ext.s0.free h0]
    · rw [upd_ne e] at q; exact S'.ext.nw a u q
  · have q := S.slot i
    revert q
    cases env.get i with
    | em => exact id
    | sh t => exact fun ⟨a, v, b, c⟩ => ⟨a, v, b, rep_mono x.s0 t v c⟩
    | ow d t => exact fun ⟨v, b, c⟩ => ⟨v, b, c.ext x⟩
    | br d t => exact fun ⟨a, v, f, b, c, e⟩ => ⟨a, v, f, b, c.ext x, fun y hy => by rw [upd_ne (ne c y hy)]; exact e y hy⟩
    | al r p => exact fun ⟨a, v, vr, d, t, b, c, e, n, l, z⟩ => ⟨a, v, vr, d, t, b, c, e, n.mono x.s, l, z⟩
    | slf C ns ts => exact fun ⟨a, dx, vs, b, c, e, n, l, z⟩ => ⟨a, dx, vs, b, c, x.s _ _ e, n, l, reps_mono x.s0 ts vs z⟩
  · have q := S.slot i
    have o' := S'.out i a ha
    refine ⟨o'.1, ?_⟩
    revert q
    cases env.get i with
    | em => intro q; rw [show fps i = [] from q] at ha; cases ha
    | sh t => intro q; rw [q.1] at ha; cases ha
    | br d t => intro q; rw [q.1] at ha; cases ha
    | al r p => intro q; rw [q.1] at ha; cases ha
    | slf C ns ts =>
      intro q
      obtain ⟨b, dx, vs, e1, _, e, _⟩ := q
      rw [e1] at ha
      have ab := List.mem_singleton.mp ha
      subst ab
      have : a ≠ D := fun z => by rw [z, hD] at e; cases e
      rw [upd_ne this]
      exact o'.2
    | ow d t =>
      intro q
      obtain ⟨v, b, c⟩ := q
      rw [upd_ne (ne c a ha)]
      exact o'.2
theorem SlVs.guard {D : Addr} {ob : HO} (hd : H D = none) : ∀ {l : List (Nat × Sl)} {vs : List V}, SlVs K He H0 H l vs → SlVs K (upd He D ob) H0 H l vs
  | [], _, h => h
  | (i, s) :: r, vs, h => by
    obtain ⟨v, w, e, a, b⟩ := h
    refine ⟨v, w, e, ?_, b.guard hd⟩
    cases s with
    | em => trivial
    | sh t => exact a
    | br d t =>
      obtain ⟨f, p, q⟩ := a
      refine ⟨f, p, fun y hy => ?_⟩
      have : y ≠ D := fun z => by
        obtain ⟨xs, e⟩ := own_in _ _ _ _ p y hy
        rw [z, hd] at e
        cases e
      rw [upd_ne this]
      exact q y hy
    | ow _ _ => exact a.elim
    | al _ _ => exact a.elim
    | slf _ _ _ => exact a.elim
theorem SlVs.unguard {D : Addr} {ob : HO} : ∀ {l : List (Nat × Sl)} {vs : List V}, SlVs K (upd He D ob) H0 H l vs → SlVs K He H0 H l vs
  | [], _, h => h
  | (i, s) :: r, vs, h => by
    obtain ⟨v, w, e, a, b⟩ := h
    refine ⟨v, w, e, ?_, b.unguard⟩
    cases s with
    | em => trivial
    | sh t => exact a
    | br d t =>
      obtain ⟨f, p, q⟩ := a
      refine ⟨f, p, fun y hy => ?_⟩
      have h := q y hy
      by_cases z : y = D
      · rw [z, upd_same] at h
        cases h
      · rw [upd_ne z] at h
        exact h
    | ow _ _ => exact a.elim
    | al _ _ => exact a.elim
    | slf _ _ _ => exact a.elim
theorem lc_read (M : Γ.Mono) {d : Nat} {it : It} {cs : TEs} {e : TE} {N : List Str} {Q : VK} (hsl : ∀ i ∈ it.slots, i < N.length) (hl : σ.length = N.length) (h : trE Γ rd K (.lc d it cs e) σ H Q) : tLc (trI Γ rd K it) (gOf K it) (trC Γ rd K cs) (trE Γ rd K e) it.slots σ H Q := by
  obtain ⟨pn, He, H0e, H0, env, fps, S, h⟩ := h
  unfold wpE at h
  refine ⟨pn, He, H0e, H0, env, fps, S, wpI_mono M it env _ _ (fun xs q H1 H' J ex W D hD => ?_) (wpI_ok M h)⟩
  obtain ⟨iok, q⟩ := q
  have S1 := S.unpin.mono ex
  have L0 : LcR K H1 H' H1 (hid He H1 H') D d H1 (upd H' D (.lst [])) [] [] [] := ⟨Ext.new ex.le hD, ex.le.free hD, hD, upd_same, ⟨rfl, rfl⟩, .nil, fun a ha => (by cases ha), Same.refl _, hid_same.trans (PT.same_upd hD), hid_same.free hD⟩
  refine lc_loop W L0 q (fun H0x Hx acc vs f L q => q _ _ _ (ex.trans L.ext) (L.done ex.s)) fun x it' vs' H0x Hx' acc vs f k' Nx hm sv run L q hn => ?_
  refine run _ _ ⟨wipe_sets fun p hp => iok it' hm p hp, ?_⟩
  obtain ⟨fp1, S2⟩ := (S1.mono L.ext).wipe it.slots fun i hi => by rw [hl]; exact hsl i hi
  obtain ⟨fp2, S3⟩ := S2.puts (fun p hp => by rw [L2.wipe_length, hl]; exact hsl _ (iok it' hm p hp)) (fun _ _ q hq => by cases hq) (sv.ext L.c0 L.c)
  exact lc_turn M S3 S1.heH L q hn
theorem lc2_read (M : Γ.Mono) {d : Nat} {it it2 : It} {cs cs2 : TEs} {e : TE} {N : List Str} {Q : VK} (hsl : ∀ i ∈ it.slots ++ it2.slots, i < N.length) (hl : σ.length = N.length) (h : trE Γ rd K (.lc2 d it it2 cs cs2 e) σ H Q) :
    tLc2 (trI Γ rd K it) (gOf K it) (trC Γ rd K cs) (trI Γ rd K it2) (gOf K it2) (trC Γ rd K cs2) (trE Γ rd K e) (it.slots ++ it2.slots) it2.slots σ H Q := by
  obtain ⟨pn, He, H0e, H0, env, fps, S, h⟩ := h
  unfold wpE at h
  refine ⟨pn, He, H0e, H0, env, fps, S, wpI_mono M it env _ _ (fun xs q H1 H' J ex W D hD => ?_) (wpI_ok M h)⟩
  obtain ⟨iok, q⟩ := q
  have S1 := S.unpin.mono ex
  have L0 : LcR K H1 H' H1 (hid He H1 H') D d H1 (upd H' D (.lst [])) [] [] [] := ⟨Ext.new ex.le hD, ex.le.free hD, hD, upd_same, ⟨rfl, rfl⟩, .nil, fun a ha => (by cases ha), Same.refl _, hid_same.trans (PT.same_upd hD), hid_same.free hD⟩
  refine lc_loop W L0 q (fun H0x Hx acc vs f L q => q _ _ _ (ex.trans L.ext) (L.done ex.s)) fun x it' vs' H0x Hx' acc vs f k' Nx hm sv run L q hn => ?_
  refine run _ _ ⟨wipe_sets fun p hp => List.mem_append_left _ (iok it' hm p hp), ?_⟩
  have St : ∀ {H0y Hy acc vs f Hc0 Hc}, LcR K H1 H' Hc0 Hc D d H0y Hy acc vs f → ∃ fp, StR K [] He H0e H0y Hy (sets (L2.wipe σ (it.slots ++ it2.slots)) it' vs') ((env.wipe (it.slots ++ it2.slots)).puts it') fp := fun {H0y Hy acc vs f Hc0 Hc} L => by
    obtain ⟨fp1, S2⟩ := (S1.mono L.ext).wipe (it.slots ++ it2.slots) fun i hi => by rw [hl]; exact hsl i hi
    exact S2.puts (fun p hp => by rw [L2.wipe_length, hl]; exact hsl _ (List.mem_append_left _ (iok it' hm p hp))) (fun _ _ q hq => by cases hq) (sv.ext L.ext.s0 (hid_same.trans L.ext.s))
  obtain ⟨fp2, S3⟩ := St L
  obtain ⟨fp3, S3g⟩ : ∃ fp, StR K [] (upd He D (.lst vs)) H0e H0x Hx' (sets (L2.wipe σ (it.slots ++ it2.slots)) it' vs') ((env.wipe (it.slots ++ it2.slots)).puts it') fp := by
    obtain ⟨fp1, S2⟩ := (S1.guard hD L.ext L.dh L.d0).wipe (it.slots ++ it2.slots) fun i hi => by rw [hl]; exact hsl i hi
    exact S2.puts (fun p hp => by rw [L2.wipe_length, hl]; exact hsl _ (List.mem_append_left _ (iok it' hm p hp))) (fun _ _ q hq => by cases hq) ((sv.guard (hid_same.free hD)).ext L.c0 L.c)
  refine trC_of M S3 q fun b H2 H2' x2 q => ?_
  cases b with
  | false => exact hn _ _ _ _ _ (L.mono x2) q
  | true =>
    refine ⟨[], upd He D (.lst vs), H0e, H2, _, fp3, S3g.mono x2, wpI_mono M it2 _ _ _ (fun ys q H3 H3' J2 ex2 W2 => ?_) (wpI_ok M q)⟩
    obtain ⟨iok2, q⟩ := q
    have L5 := ((L.mono x2).mono ex2).cast (Hw0 := H3) (Hw := hid (upd He D (.lst vs)) H3 H3') (Same.refl _) hid_same (by
      unfold hid
      rw [upd_same, ((L.mono x2).mono ex2).d0])
    refine lc_loop W2 L5 q (fun H0y Hy acc vs f L q => hn _ _ _ _ _ (L.cast L.ext.s0 (hid_same.trans L.ext.s) (hid_same.free L.db)) q) fun y it'' ws H0y Hy' acc vs f k'' Ny hm2 sv2 run2 L q hn2 => ?_
    obtain ⟨fp4, S6⟩ := St L
    have hl2 : (sets (L2.wipe σ (it.slots ++ it2.slots)) it' vs').length = N.length := by rw [len_sets, L2.wipe_length, hl]
    refine run2 _ _ ⟨wipe_sets fun p hp => iok2 it'' hm2 p hp, ?_⟩
    obtain ⟨fp5, S7⟩ := S6.wipe it2.slots fun i hi => by rw [hl2]; exact hsl i (List.mem_append_right _ hi)
    obtain ⟨fp6, S8⟩ := S7.puts (fun p hp => by rw [L2.wipe_length, hl2]; exact hsl _ (List.mem_append_right _ (iok2 it'' hm2 p hp))) (fun _ _ q hq => by cases hq) (sv2.unguard.ext L.c0 L.c)
    exact lc_turn M S8 S1.heH L q hn2
theorem s_lc (M : Γ.Mono) (G : Good c n C X N sc) {d : Nat} {it : It} {cs : TEs} {e : TE} {elt tg iter : Expr} {ifs : List Expr} {scope : Scope} {own : List (Str × Nat)} {pos : Pos} (ok : BlkOk X.N X.env.scope scope own) (hown : own.map (·.2) = it.slots) (hsl : ∀ i ∈ it.slots, i < N.length)
    (hlen : ∀ {pins σ H s}, Inv X pins σ H s → σ.length = N.length)
    (hi : PI X tg iter (trI Γ rd X.K it)) (hg : ∀ (s : Shared) (H : Hp) (C : Addr) (cl : List (Str × Addr)) (fp : List Addr), PG (X.blk s H scope (compEnvC scope cl C X.env) fp) tg (gOf X.K it))
    (ht : ∀ (s : Shared) (H : Hp) (C : Addr) (cl : List (Str × Addr)) (fp : List Addr), PTs (X.blk s H scope (compEnvC scope cl C X.env) fp) ifs (trC Γ rd X.K cs))
    (he : ∀ (s : Shared) (H : Hp) (C : Addr) (cl : List (Str × Addr)) (fp : List Addr), PE (X.blk s H scope (compEnvC scope cl C X.env) fp) elt (trE Γ rd X.K e)) (hs : ∀ x, foldedSetIterable iter X.env x = pure x) :
    PE X (.ListComp elt [⟨tg, iter, ifs, 0⟩] scope pos) (trE Γ rd X.K (.lc d it cs e)) := by
  refine ⟨fun pins s σ H Q I h => (pe_lc G.calm (by rw [G.hN]; exact G.nd) hi ok hg ht he hs).run pins s σ H Q I ?_⟩
  rw [hown]
  exact lc_read M hsl (hlen I) h
theorem s_lc2 (M : Γ.Mono) (G : Good c n C X N sc) {d : Nat} {it it2 : It} {cs cs2 : TEs} {e : TE} {elt tg iter tg2 iter2 : Expr} {ifs ifs2 : List Expr} {scope : Scope} {own : List (Str × Nat)} {pos : Pos} (ok : BlkOk X.N X.env.scope scope own) (hown : own.map (·.2) = it.slots ++ it2.slots) (hsl : ∀ i ∈ it.slots ++ it2.slots, i < N.length)
    (hlen : ∀ {pins σ H s}, Inv X pins σ H s → σ.length = N.length)
    (hi : PI X tg iter (trI Γ rd X.K it)) (hg : ∀ (s : Shared) (H : Hp) (C : Addr) (cl : List (Str × Addr)) (fp : List Addr), PG (X.blk s H scope (compEnvC scope cl C X.env) fp) tg (gOf X.K it))
    (ht : ∀ (s : Shared) (H : Hp) (C : Addr) (cl : List (Str × Addr)) (fp : List Addr), PTs (X.blk s H scope (compEnvC scope cl C X.env) fp) ifs (trC Γ rd X.K cs))
    (hi2 : ∀ (s : Shared) (H : Hp) (C : Addr) (cl : List (Str × Addr)) (fp : List Addr), PI (X.blk s H scope (compEnvC scope cl C X.env) fp) tg2 iter2 (trI Γ rd X.K it2)) (hg2 : ∀ (s : Shared) (H : Hp) (C : Addr) (cl : List (Str × Addr)) (fp : List Addr), PG (X.blk s H scope (compEnvC scope cl C X.env) fp) tg2 (gOf X.K it2))
    (ht2 : ∀ (s : Shared) (H : Hp) (C : Addr) (cl : List (Str × Addr)) (fp : List Addr), PTs (X.blk s H scope (compEnvC scope cl C X.env) fp) ifs2 (trC Γ rd X.K cs2))
    (he : ∀ (s : Shared) (H : Hp) (C : Addr) (cl : List (Str × Addr)) (fp : List Addr), PE (X.blk s H scope (compEnvC scope cl C X.env) fp) elt (trE Γ rd X.K e)) (hs : ∀ x, foldedSetIterable iter X.env x = pure x) (hs2 : ∀ env x, foldedSetIterable iter2 env x = pure x) :
    PE X (.ListComp elt [⟨tg, iter, ifs, 0⟩, ⟨tg2, iter2, ifs2, 0⟩] scope pos) (trE Γ rd X.K (.lc2 d it it2 cs cs2 e)) := by
  refine ⟨fun pins s σ H Q I h => (pe_lc2 (vs1 := it2.slots) G.calm (by rw [G.hN]; exact G.nd) hi ok (fun i hi => by rw [hown]; exact List.mem_append_right _ hi) hg ht hi2 hg2 ht2 he hs hs2).run pins s σ H Q I ?_⟩
  rw [hown]
  exact lc2_read M hsl (hlen I) h
end
end PT

namespace PT
open PySem PySem.Spec PyProof.Rows L2
section
variable {pn : List (Nat × V)} {K : PySem.W.Frag} {He H0e H0 H H0' H' H0'' H'' : Hp} {σ : L2.St} {env : Env} {fps : Nat → List Addr} {t : T} {v : V} {o : Og}
theorem Owns.disj {P : T → V → List Addr → Prop} : ∀ {ts : List T} {vs : List V} {fp : List Addr} {i j : Nat} {t u : T}, Owns P ts vs fp → fp.Nodup → i ≠ j → ts[i]? = some t → ts[j]? = some u →
    ∃ v w f g, vs[i]? = some v ∧ vs[j]? = some w ∧ P t v f ∧ P u w g ∧ (∀ b ∈ f, b ∉ g) ∧ (∀ b ∈ f, b ∈ fp) ∧ ∀ b ∈ g, b ∈ fp
  | [], _, _, _, _, _, _, _, _, _, h, _ => by simp at h
  | x :: ts, vs, fp, i, j, t, u, o, nd, ne, hi, hj => by
    obtain ⟨v, r, f1, f2, e1, e2, p, o⟩ := o
    subst e1 e2
    obtain ⟨n1, n2, n3⟩ := List.nodup_append.mp nd
    cases i with
    | zero =>
      cases j with
      | zero => exact absurd rfl ne
      | succ j =>
        obtain ⟨w, g, h1, h2, h3⟩ := o.get (i := j) (by simpa using hj)
        have e : x = t := by simpa using hi
        subst e
        exact ⟨v, w, f1, g, rfl, by simpa using h1, p, h2, fun b hb hg => n3 b hb b (h3 b hg) rfl, fun b hb => List.mem_append_left _ hb, fun b hb => List.mem_append_right _ (h3 b hb)⟩
    | succ i =>
      cases j with
      | zero =>
        obtain ⟨w, g, h1, h2, h3⟩ := o.get (i := i) (by simpa using hi)
        have e : x = u := by simpa using hj
        subst e
        exact ⟨w, v, g, f1, by simpa using h1, rfl, h2, p, fun b hb hg => n3 b hg b (h3 b hb) rfl, fun b hb => List.mem_append_right _ (h3 b hb), fun b hb => List.mem_append_left _ hb⟩
      | succ j =>
        obtain ⟨v', w, f, g, h1, h2, h3, h4, h5, h6, h7⟩ := Owns.disj (i := i) (j := j) o n2 (fun z => ne (by rw [z])) (by simpa using hi) (by simpa using hj)
        exact ⟨v', w, f, g, by simpa using h1, by simpa using h2, h3, h4, h5, fun b hb => List.mem_append_right _ (h6 b hb), fun b hb => List.mem_append_right _ (h7 b hb)⟩
/-- a place stands as long as the list around it does -/
theorem node_imp : ∀ {p : List Nat} {d : Nat} {t : T} {v w : V} {fp : List Addr}, Own K H0 H d t v fp → (∀ b ∈ fp, H' b = H b) → p.length ≤ d → (t.at p).isSome = true → NodeAt H v p w → NodeAt H' v p w
  | [], _, _, _, _, _, _, _, _, _, n => n
  | k :: p, 0, _, _, _, _, _, _, h, _, _ => by simp at h
  | k :: p, d + 1, t, v, w, fp, o, e, hd, hs, n => by
    cases t with
    | lst ts =>
      obtain ⟨a, vs, f, q1, q2, q3, o⟩ := o
      obtain ⟨a', vs', x, e1, e2, e3, e4⟩ := n
      rw [q1] at e1
      cases e1
      rw [q2] at e2
      cases e2
      unfold T.at at hs
      split at hs
      · rename_i u hu
        obtain ⟨y, g, h1, h2, h3⟩ := o.get hu
        rw [e3] at h1
        cases h1
        exact ⟨a, vs, x, q1, (e a (q3 ▸ List.mem_cons_self)).trans q2, e3, node_imp h2 (fun b hb => e b (q3 ▸ List.mem_cons_of_mem _ (h3 b hb))) (by simpa using hd) hs e4⟩
      · cases hs
    | _ => unfold T.at at hs; cases hs
theorem node_mem : ∀ {p : List Nat} {d : Nat} {t : T} {v : V} {ts : List T} {a : Addr} {fp : List Addr}, Own K H0 H d t v fp → t.at p = some (.lst ts) → p.length < d → NodeAt H v p (.ref a) → a ∈ fp
  | [], 0, _, _, _, _, _, _, _, h, _ => by simp at h
  | [], d + 1, t, v, ts, a, fp, o, h, _, n => by
    have e : t = .lst ts := by
      unfold T.at at h
      exact Option.some.inj h
    subst e
    obtain ⟨a', vs, f, q1, q2, q3, o⟩ := o
    have n : v = .ref a := n
    rw [q1] at n
    cases n
    rw [q3]
    exact List.mem_cons_self
  | k :: p, 0, _, _, _, _, _, _, _, h, _ => by simp at h
  | k :: p, d + 1, t, v, ts, a, fp, o, h, hd, n => by
    cases t with
    | lst us =>
      obtain ⟨a', vs, f, q1, q2, q3, o⟩ := o
      obtain ⟨a2, vs', x, e1, e2, e3, e4⟩ := n
      rw [q1] at e1
      cases e1
      rw [q2] at e2
      cases e2
      unfold T.at at h
      split at h
      · rename_i u hu
        obtain ⟨y, g, h1, h2, h3⟩ := o.get hu
        rw [e3] at h1
        cases h1
        rw [q3]
        exact List.mem_cons_of_mem _ (h3 _ (node_mem h2 h (by simpa using hd) e4))
      · cases h
    | _ => unfold T.at at h; cases h
/-- places no deeper than the changed list stand -/
theorem node_keep : ∀ {p : List Nat} {d : Nat} {t : T} {v : V} {ts : List T} {a : Addr} {fp : List Addr}, Own K H0 H d t v fp → fp.Nodup → t.at p = some (.lst ts) → p.length < d → NodeAt H v p (.ref a) → (∀ b ∈ fp, b ≠ a → H' b = H b) →
    ∀ {q : List Nat} {w : V}, q.length ≤ p.length → (t.at q).isSome = true → NodeAt H v q w → NodeAt H' v q w
  | [], d, t, v, ts, a, fp, o, nd, h, hd, n, e, q, w, hq, hs, nq => by
    cases q with
    | nil => exact nq
    | cons k q => simp at hq
  | k :: p, 0, _, _, _, _, _, _, _, _, h, _, _, _, _, _, _, _ => by simp at h
  | k :: p, d + 1, t, v, ts, a, fp, o, nd, h, hd, n, e, q, w, hq, hs, nq => by
    cases q with
    | nil => exact nq
    | cons k2 q =>
      cases t with
      | lst us =>
        obtain ⟨a0, vs, f, q1, q2, q3, o⟩ := o
        subst q3
        have nd' := List.nodup_cons.mp nd
        obtain ⟨a2, vs', x, e1, e2, e3, e4⟩ := n
        rw [q1] at e1
        cases e1
        rw [q2] at e2
        cases e2
        obtain ⟨a3, vs', y, e5, e6, e7, e8⟩ := nq
        rw [q1] at e5
        cases e5
        rw [q2] at e6
        cases e6
        unfold T.at at h hs
        split at h
        · rename_i u hu
          split at hs
          · rename_i u2 hu2
            have am : a ∈ f := by
              obtain ⟨y, g, h1, h2, h3⟩ := o.get hu
              rw [e3] at h1
              cases h1
              exact h3 _ (node_mem h2 h (by simpa using hd) e4)
            have ha0 : H' a0 = some (.lst vs) := (e a0 List.mem_cons_self fun z => nd'.1 (z ▸ am)).trans q2
            refine ⟨a0, vs, y, q1, ha0, e7, ?_⟩
            by_cases ek : k = k2
            · subst ek
              obtain ⟨y', g, g1, g2, h1, h2, h3, _⟩ := o.upd hu
              rw [e3] at h1
              cases h1
              rw [e3] at e7
              cases e7
              rw [hu] at hu2
              cases hu2
              subst h2
              have n2 := (List.nodup_append.mp (List.nodup_append.mp nd'.2).2.1).1
              exact node_keep h3 n2 h (by simpa using hd) e4 (fun b hb hne => e b (List.mem_cons_of_mem _ (List.mem_append_right _ (List.mem_append_left _ hb))) hne) (by simpa using hq) hs e8
            · obtain ⟨v1, w1, f1, g1, h1, h2, h3, h4, h5, h6, h7⟩ := o.disj nd'.2 ek hu hu2
              rw [e3] at h1
              cases h1
              rw [e7] at h2
              cases h2
              have a1 : a ∈ f1 := node_mem h3 h (by simpa using hd) e4
              exact node_imp h4 (fun b hb => e b (List.mem_cons_of_mem _ (h7 b hb)) fun z => h5 a a1 (z ▸ hb)) (by simp at hq hd; omega) hs e8
          · cases hs
        · cases h
      | _ => unfold T.at at h; cases h
theorem at_put : ∀ {p q : List Nat} {t u : T}, q.length ≤ p.length → (t.at q).isSome = true → (t.at p).isSome = true → ((t.put p u).at q).isSome = true
  | [], q, t, u, hq, _, _ => by
    cases q with
    | nil => simp [T.at]
    | cons k q => simp at hq
  | k :: p, [], t, u, _, _, _ => by simp [T.at]
  | k :: p, k2 :: q, t, u, hq, h1, h2 => by
    cases t with
    | lst ts =>
      unfold T.at at h1 h2
      split at h2
      · rename_i t1 ht1
        split at h1
        · rename_i t2 ht2
          have e : T.put (.lst ts) (k :: p) u = .lst (ts.set k (t1.put p u)) := by
            rw [T.put, ht1]
          rw [e]
          by_cases ek : k = k2
          · subst ek
            rw [ht1] at ht2
            cases ht2
            have hk : k < ts.length := (List.getElem?_eq_some_iff.mp ht1).1
            unfold T.at
            rw [List.getElem?_set_self hk]
            exact at_put (by simpa using hq) h1 h2
          · unfold T.at
            rw [List.getElem?_set_ne ek, ht2]
            exact h1
        · cases h1
      · cases h2
    | _ => unfold T.at at h1; cases h1
theorem at_one {p : List Nat} : ∀ {q : List Nat} {t : T} {ts : List T} {m : Nat}, t.at q = some (.lst ts) → m < ts.length → t.at (q ++ [m]) = ts[m]?
  | [], t, ts, m, h, hm => by
    have e : t = .lst ts := by
      unfold T.at at h
      exact Option.some.inj h
    subst e
    show T.at (.lst ts) [m] = _
    unfold T.at
    rw [List.getElem?_eq_getElem hm]
    rfl
  | k :: q, t, ts, m, h, hm => by
    cases t with
    | lst us =>
      unfold T.at at h
      split at h
      · rename_i u hu
        show T.at (.lst us) (k :: (q ++ [m])) = _
        unfold T.at
        rw [hu]
        exact at_one (p := p) h hm
      · cases h
    | _ => unfold T.at at h; cases h
theorem node_one : ∀ {q : List Nat} {v w : V} {m : Nat} {a : Addr} {vs : List V}, NodeAt H v q (.ref a) → H a = some (.lst vs) → vs[m]? = some w → NodeAt H v (q ++ [m]) w
  | [], v, w, m, a, vs, n, h, hm => ⟨a, vs, w, n, h, hm, rfl⟩
  | k :: q, v, w, m, a, vs, n, h, hm => by
    obtain ⟨a0, vs0, x, e1, e2, e3, e4⟩ := n
    exact ⟨a0, vs0, x, e1, e2, e3, node_one e4 h hm⟩
/-- a list of one's own is changed at a place -/
theorem StR.mutate (S : StR K pn He H0e H0 H σ env fps) {r d : Nat} {p : List Nat} {ts : List T} {vr : V} {a : Addr} (hr : env.get r = .ow d t) (ha : t.at p = some (.lst ts)) (hp : p.length < d) (hv : σ[r]? = some (some vr)) (hn : NodeAt H vr p (.ref a)) :
    ∃ vs f, H a = some (.lst vs) ∧ Owns (Own K H0 H (d - p.length - 1)) ts vs f ∧ f.Nodup ∧ (∀ b ∈ f, b ≠ a ∧ b ∈ fps r) ∧ a ∈ fps r ∧
      ∀ (ts' : List T) (vs' : List V) (f' : List Addr), Owns (Own K H0 (upd H a (.lst vs')) (d - p.length - 1)) ts' vs' f' → f'.Nodup → (∀ b ∈ f', b ∈ f ∨ ((∀ j, b ∉ fps j) ∧ H0 b = none ∧ He b = none)) →
        ∃ fp', StR K pn He H0e H0 (upd H a (.lst vs')) σ (env.mut r p.length (.ow d (t.put p (.lst ts')))) (fpUpd fps r fp') ∧ ∀ b ∈ fp', b ∈ fps r ∨ b ∈ f' := by
  have q := S.slot r
  rw [hr] at q
  obtain ⟨vr', e1, o⟩ := q
  rw [hv] at e1
  cases e1
  have nd := S.nd r
  obtain ⟨a', vs, f, n1, h1, h2, h3, h4, h5, h6, fin⟩ := own_put o nd ha hp
  have ea : a' = a := by
    have key : ∀ {q : List Nat} {v w w' : V}, NodeAt H v q w → NodeAt H v q w' → w = w' := by
      intro q
      induction q with
      | nil => exact fun a b => Eq.trans (Eq.symm a) b
      | cons k q ih =>
        intro v w w' ⟨a, vs, x, e1, e2, e3, e4⟩ ⟨a', vs', x', f1, f2, f3, f4⟩
        rw [e1] at f1
        cases f1
        rw [e2] at f2
        cases f2
        rw [e3] at f3
        cases f3
        exact ih e4 f4
    have := key n1 hn
    cases this
    rfl
  subst ea
  refine ⟨vs, f, h1, h6, h5, fun b hb => ⟨fun z => h3 (z ▸ hb), h4 b hb⟩, h2, fun ts' vs' f' o' nf hf => ?_⟩
  have hne : ∀ b ∈ fps r, b ≠ a' → upd H a' (.lst vs') b = H b := fun b _ hb => upd_ne hb
  obtain ⟨fp', w1, w2, w3⟩ := fin H0 (upd H a' (.lst vs')) ts' vs' f' (Same.refl _) upd_same hne o' nf (fun b hb => (hf b hb).imp id fun z => z.1 r)
  have oth : ∀ {j : Nat}, j ≠ r → ∀ b ∈ fps j, b ≠ a' := fun {j} hj b hb z => S.dj j r b hj hb (z ▸ h2)
  have hi : r < env.length := by
    by_cases hh : r < env.length
    · exact hh
    · have key : ∀ (env : Env) (r : Nat), ¬ r < env.length → env.get r = .em := by
        intro env
        induction env with
        | nil => exact fun r _ => rfl
        | cons s env ih =>
          intro r hr
          cases r with
          | zero => simp at hr
          | succ r => exact ih r (by simpa using hr)
      rw [key env r hh] at hr
      cases hr
  have get : ∀ j s, (env.mut r p.length s).get j = if r = j then s else Sl.muted r p.length (env.get j) := fun j s => by
    unfold Env.mut
    rw [get_put _ _ _ _ (by rw [List.length_map]; exact hi), get_map rfl]
  refine ⟨fp', ⟨⟨fun b u e => ?_, S.ext.s0, fun b u e => ?_, S.ext.nw⟩, ?_, fun j => ?_, fun j => ?_, fun j k b hjk hb => ?_, fun j b hb => ?_, S.pin⟩, w3⟩
  · rw [upd_ne (fun z => by rw [z, (S.out r a' h2).2] at e; cases e)]
    exact S.ext.s b u e
  · rw [upd_ne (fun z => by rw [z, (S.out r a' h2).1] at e; cases e)]
    exact S.ext.le b u e
  · unfold Env.mut
    rw [len_put, List.length_map]
    exact S.len
  · rw [get]
    unfold fpUpd
    by_cases e : r = j
    · subst e
      rw [if_pos rfl, if_pos rfl]
      exact ⟨vr, hv, w1⟩
    · rw [if_neg e, if_neg e]
      have q := S.slot j
      cases g : env.get j with
      | em => rw [g] at q; exact q
      | sh u => rw [g] at q; exact q
      | br d2 u => rw [g] at q; exact q.1
      | ow d2 u =>
        rw [g] at q
        obtain ⟨w, b, c⟩ := q
        exact ⟨w, b, own_imp (Same.refl _) _ _ _ _ (fun x hx => upd_ne (oth (Ne.symm e) x hx)) c⟩
      | slf C ns us =>
        rw [g] at q
        obtain ⟨b, dx, ws, c1, c2, c3, c4⟩ := q
        exact ⟨b, dx, ws, c1, c2, (upd_ne (oth (Ne.symm e) b (by rw [c1]; exact List.mem_singleton.mpr rfl))).trans c3, c4⟩
      | al r2 p2 =>
        rw [g] at q
        obtain ⟨z, w, vr2, d2, t2, c1, c2, c3, c4, c5, c6⟩ := q
        show SlR _ _ _ _ _ _ _ _ (if r2 = r then (if p.length < p2.length then .em else .al r2 p2) else .al r2 p2)
        by_cases er : r2 = r
        · rw [if_pos er]
          by_cases hl : p.length < p2.length
          · rw [if_pos hl]; exact z
          · rw [if_neg hl]
            subst er
            rw [hr] at c3
            cases c3
            rw [hv] at c2
            cases c2
            refine ⟨z, w, vr, d, _, c1, hv, by rw [get, if_pos rfl], node_keep o nd ha hp hn hne (by omega) c6 c4, c5, at_put (by omega) c6 (by rw [ha]; rfl)⟩
        · rw [if_neg er]
          have q2 := S.slot r2
          rw [c3] at q2
          obtain ⟨vr3, b1, b2⟩ := q2
          rw [c2] at b1
          cases b1
          refine ⟨z, w, vr2, d2, t2, c1, c2, ?_, node_imp b2 (fun x hx => upd_ne (oth er x hx)) c5 c6 c4, c5, c6⟩
          rw [get, if_neg (Ne.symm er), c3]
          rfl
  · unfold fpUpd
    split
    · exact w2
    · exact S.nd j
  · have cl : ∀ {j : Nat}, j ≠ r → ∀ b ∈ fp', b ∉ fps j := fun {j} hj b hb hm => by
      rcases w3 b hb with z | z
      · exact S.dj j r b hj hm z
      · rcases hf b z with y | y
        · exact S.dj j r b hj hm (h4 b y)
        · exact y.1 j hm
    unfold fpUpd at hb ⊢
    by_cases e : r = j
    · rw [if_pos e] at hb
      have : r ≠ k := fun z => hjk (e.symm.trans z)
      rw [if_neg this]
      exact cl (Ne.symm this) b hb
    · rw [if_neg e] at hb
      by_cases e2 : r = k
      · rw [if_pos e2]
        exact fun h => cl (Ne.symm e) b h hb
      · rw [if_neg e2]
        exact S.dj j k b hjk hb
  · unfold fpUpd at hb
    by_cases e : r = j
    · rw [if_pos e] at hb
      rcases w3 b hb with z | z
      · exact S.out r b z
      · rcases hf b z with y | y
        · exact S.out r b (h4 b y)
        · exact y.2
    · rw [if_neg e] at hb
      exact S.out j b hb
end
end PT

namespace PT
open PySem PySem.Spec PyProof.Rows L2
/-! ### statements -/
mutual
/-- the slots that a statement stores -/
def TS.wr : TS → List Nat
  | .asg i _ _ => [i]
  | .ali i _ _ => [i]
  | .unp is _ => is
  | .ite _ a b => a.wr ++ b.wr
  | .whl _ b => b.wr
  | .for_ it b => it.slots ++ b.wr
  | .forO i _ b => i :: b.wr
  | .forD i _ _ b => i :: b.wr
  | .forG i _ _ b => i :: b.wr
  | .fgt is => is
  | _ => []
def TSs.wr : TSs → List Nat
  | .nil => []
  | .cons s r => s.wr ++ r.wr
end
/-- what stands behind a statement, from trees to the heap -/
structure Lift (K : PySem.W.Frag) (pn : List (Nat × V)) (He H0e : Hp) (D : DT) (E : Ends) : Prop where
  nx : ∀ H0 H σ env fps, StR K pn He H0e H0 H σ env fps → D.nx env → E.nx σ H
  rt : ∀ H0 H o t v, Ext H0e He H0 H → VR K He He H0 H o t v → D.rt t o → E.rt v H
  bk : ∀ H0 H σ env fps, StR K pn He H0e H0 H σ env fps → D.bk env → E.bk σ H
  ct : ∀ H0 H σ env fps, StR K pn He H0e H0 H σ env fps → D.ct env → E.ct σ H
def okP (pn : List (Nat × V)) (is : List Nat) : Prop := ∀ q ∈ pn, q.1 ∉ is
def trS (Γ : Gam) (rd : Nat → Nat) (K : PySem.W.Frag) (s : TS) : L2.TS := fun E σ H => ∃ pn He H0e H0 env fps D, okP pn s.wr ∧ StR K pn He H0e H0 H σ env fps ∧ Lift K pn He H0e D E ∧ wpS Γ rd s env D
def trSs (Γ : Gam) (rd : Nat → Nat) (K : PySem.W.Frag) (s : TSs) : L2.TS := fun E σ H => ∃ pn He H0e H0 env fps D, okP pn s.wr ∧ StR K pn He H0e H0 H σ env fps ∧ Lift K pn He H0e D E ∧ wpSs Γ rd s env D
theorem PS.mono {X : Cx} {e : Stmt} {t t' : L2.TS} (h : PS X e t) (k : ∀ D σ H, σ.length = X.N.length → t' D σ H → t D σ H) : PS X e t' := ⟨fun pins s σ H D I q => h.run pins s σ H D I (k D σ H I.len q)⟩
theorem PSs.mono {X : Cx} {e : List Stmt} {t t' : L2.TS} (h : PSs X e t) (k : ∀ D σ H, σ.length = X.N.length → t' D σ H → t D σ H) : PSs X e t' := ⟨fun pins s σ H D I q => h.run pins s σ H D I (k D σ H I.len q)⟩
section
variable {c : Cfg} {n : Nat} {C : CXT} {X : Cx} {N : List Str} {sc : Scope}
variable {pn : List (Nat × V)} {K : PySem.W.Frag} {He H0e H0 H H0' H' H0'' H'' : Hp} {σ : L2.St} {env : Env} {fps : Nat → List Addr} {t : T} {v : V} {o : Og}
variable {Γ : Gam} {rd : Nat → Nat}
theorem okP_l {a b : List Nat} (h : okP pn (a ++ b)) : okP pn a := fun q hq m => h q hq (List.mem_append_left _ m)
theorem okP_r {a b : List Nat} (h : okP pn (a ++ b)) : okP pn b := fun q hq m => h q hq (List.mem_append_right _ m)
theorem okP_ne {a : List Nat} {i : Nat} (h : okP pn a) (hi : i ∈ a) : ∀ q ∈ pn, q.1 ≠ i := fun q hq e => h q hq (e ▸ hi)
theorem get_lt : ∀ {env : Env} {r : Nat}, env.get r ≠ .em → r < env.length
  | [], r, h => absurd rfl h
  | s :: env, 0, h => by simp
  | s :: env, r + 1, h => by
    have := get_lt (env := env) (r := r) h
    simpa using this
theorem ss_nil : PSs X [] (trSs Γ rd X.K .nil) := by
  refine PSs.mono pss_nil fun E σ H _ h => ?_
  obtain ⟨pn, He, H0e, H0, env, fps, D, ok, S, L, h⟩ := h
  unfold wpSs at h
  exact L.nx _ _ _ _ _ S h
theorem ss_cons {s : TS} {r : TSs} {st : Stmt} {rest : List Stmt} (h1 : PS X st (trS Γ rd X.K s)) (h2 : PSs X rest (trSs Γ rd X.K r)) : PSs X (st :: rest) (trSs Γ rd X.K (.cons s r)) := by
  refine PSs.mono (pss_cons h1 h2) fun E σ H _ h => ?_
  obtain ⟨pn, He, H0e, H0, env, fps, D, ok, S, L, h⟩ := h
  unfold wpSs at h
  exact ⟨pn, He, H0e, H0, env, fps, { D with nx := fun env' => wpSs Γ rd r env' D }, okP_l ok, S, ⟨fun H0 H σ env fps S q => ⟨pn, He, H0e, H0, env, fps, D, okP_r ok, S, L, q⟩, L.rt, L.bk, L.ct⟩, h⟩
/-- names forgotten -/
theorem ss_fgt {is : List Nat} {r : TSs} {sts : List Stmt} (hN : X.N = N) (hi : ∀ i ∈ is, i < N.length) (h2 : PSs X sts (trSs Γ rd X.K r)) : PSs X sts (trSs Γ rd X.K (.cons (.fgt is) r)) := by
  refine PSs.mono h2 fun E σ H hl h => ?_
  obtain ⟨pn, He, H0e, H0, env, fps, D, ok, S, L, h⟩ := h
  unfold wpSs wpS at h
  obtain ⟨fps', S'⟩ := S.fgt is (fun i m => by rw [hl, hN]; exact hi i m) fun i m => okP_ne (okP_l ok) m
  exact ⟨pn, He, H0e, H0, _, fps', D, okP_r ok, S', L, h⟩
theorem env_ext : ∀ {a b : Env}, a.length = b.length → (∀ j, a.get j = b.get j) → a = b
  | [], [], _, _ => rfl
  | [], _ :: _, h, _ => by simp at h
  | _ :: _, [], h, _ => by simp at h
  | x :: a, y :: b, h, g => by
    have e : x = y := g 0
    rw [e, env_ext (a := a) (b := b) (by simpa using h) fun j => g (j + 1)]
theorem unroot2 {i : Nat} (s : Sl) : Sl.unroot i (Sl.unroot i s) = Sl.unroot i s := by
  cases s with
  | al r p =>
    show (Sl.unroot i (if r = i then .em else .al r p)) = (if r = i then .em else .al r p)
    by_cases h : r = i
    · rw [if_pos h]
      rfl
    · rw [if_neg h]
      show (if r = i then Sl.em else Sl.al r p) = _
      rw [if_neg h]
  | _ => rfl
theorem store2 {env : Env} {i : Nat} {s s' : Sl} (h : i < env.length) : (env.store i s).store i s' = env.store i s' := by
  refine env_ext (by simp only [len_store]) fun j => ?_
  rw [get_store (by rw [len_store]; exact h), get_store h, get_store h]
  by_cases e : i = j
  · rw [if_pos e, if_pos e]
  · rw [if_neg e, if_neg e, if_neg e, unroot2]
/-- more is frozen -/
theorem StR.up {H0n : Hp} (S : StR K pn He H0e H0 H σ env fps) (s0 : Same H0 H0n) (le : Same H0n H) (nw : ∀ a o, He a = some o → H0n a = H0 a) (of : ∀ i, ∀ a ∈ fps i, H0n a = none) : StR K pn He H0e H0n H σ env fps := by
  refine ⟨⟨S.ext.s, S.ext.s0.trans s0, le, fun a o e => (nw a o e).trans (S.ext.nw a o e)⟩, S.len, fun i => ?_, S.nd, S.dj, fun i a ha => ⟨of i a ha, (S.out i a ha).2⟩, S.pin⟩
  have q := S.slot i
  revert q
  cases env.get i with
  | em => exact id
  | sh t => exact fun ⟨a, v, b, c⟩ => ⟨a, v, b, rep_mono s0 t v c⟩
  | ow d t => exact fun ⟨v, b, c⟩ => ⟨v, b, own_imp s0 d t v _ (fun _ _ => rfl) c⟩
  | br d t => exact fun ⟨a, v, f, b, c, e⟩ => ⟨a, v, f, b, own_imp s0 d t v _ (fun _ _ => rfl) c, e⟩
  | al r p => exact id
  | slf C ns ts => exact fun ⟨a, dx, vs, b, c, e, n, l, z⟩ => ⟨a, dx, vs, b, c, e, n, l, reps_mono s0 ts vs z⟩
/-- a slot's own value stored anew as something else -/
theorem StR.re (S : StR K pn He H0e H0 H σ env fps) {i : Nat} {s : Sl} (hi : i < σ.length) (hs : SlR K He H0 H σ (env.store i s) i [] s) : StR K pn He H0e H0 H σ (env.store i s) (fpUpd fps i []) := by
  have := S.put (w := σ[i]) (s := s) (f := []) hi (by rw [List.set_getElem_self hi]; exact hs) .nil (fun j a _ ha => by cases ha) (fun a ha => by cases ha) (fun q hq e => by
    have := S.pin q hq
    rw [e, List.getElem?_eq_getElem hi] at this
    exact Option.some.inj this)
  rw [List.set_getElem_self hi] at this
  exact this
/-- what one owns is frozen -/
theorem StR.frz (S : StR K pn He H0e H0 H σ env fps) {r d : Nat} (hr : env.get r = .ow d t) : ∃ H0n fps', StR K pn He H0e H0n H σ (env.store r (.sh t)) fps' ∧ ∀ p w t' v, NodeAt H w p v → σ[r]? = some (some w) → t.at p = some t' → p.length ≤ d → Rep K H0n t' v := by
  have q := S.slot r
  rw [hr] at q
  obtain ⟨w, e1, o⟩ := q
  have ri : r < σ.length := by rw [← S.len]; exact get_lt (by rw [hr]; exact Sl.noConfusion)
  have s0 : Same H0 (adj H0 H (fps r)) := same_adj S.le
  have rp : Rep K (adj H0 H (fps r)) t w := own_rep s0 d t w (fps r) (fun a ha => adj_in ha) o
  have S1 := S.re (s := .em) ri rfl
  have S2 : StR K pn He H0e (adj H0 H (fps r)) H σ _ _ := S1.up s0 (adj_same S.le) (fun a o e => adj_out fun m => by rw [(S.out r a m).2] at e; cases e) fun i a ha => by
    unfold fpUpd at ha
    by_cases e : r = i
    · rw [if_pos e] at ha; cases ha
    · rw [if_neg e] at ha
      rw [adj_out (S.dj i r a (Ne.symm e) ha)]
      exact (S.out i a ha).1
  have S3 := S2.re (s := .sh t) ri ⟨rfl, w, e1, rp⟩
  rw [store2 (by rw [S.len]; exact ri)] at S3
  refine ⟨_, _, S3, fun p w' t' v nd e2 h hp => ?_⟩
  rw [e1] at e2
  cases e2
  obtain ⟨f, h1, h2⟩ := own_at o nd h hp
  exact own_rep s0 _ t' v f (fun a ha => adj_in (h2 a ha)) h1
theorem ss_frz {i : Nat} {r : TSs} {sts : List Stmt} (h2 : PSs X sts (trSs Γ rd X.K r)) : PSs X sts (trSs Γ rd X.K (.cons (.frz i) r)) := by
  refine PSs.mono h2 fun E σ H hl h => ?_
  obtain ⟨pn, He, H0e, H0, env, fps, D, ok, S, L, h⟩ := h
  unfold wpSs wpS wpFrz at h
  split at h
  · rename_i d t e
    obtain ⟨H0n, fps', S', _⟩ := S.frz e
    exact ⟨pn, He, H0e, H0n, _, fps', D, okP_r ok, S', L, h⟩
  · rename_i r p e
    split at h
    · rename_i d t e2
      obtain ⟨hp, t', h1, h3⟩ := h
      have q := S.slot i
      rw [e] at q
      obtain ⟨_, v, vr, d', t2, q1, q2, q3, q4, q5, q6⟩ := q
      rw [e2] at q3
      cases q3
      obtain ⟨H0n, fps', S', fz⟩ := S.frz e2
      have hi : i < σ.length := by rw [← S.len]; exact get_lt (by rw [e]; exact Sl.noConfusion)
      exact ⟨pn, He, H0e, H0n, _, _, D, okP_r ok, S'.re (s := .sh t') hi ⟨rfl, v, q1, fz p vr t' v q4 q2 h1 hp⟩, L, h3⟩
    · exact h.elim
  · exact ⟨pn, He, H0e, H0, env, fps, D, okP_r ok, S, L, h⟩
/-! ### name = value -/
theorem asg_key (S : StR K pn He H0e H0 H σ env fps) {i : Nat} {own : Option Nat} {k : Env → Prop} (hi : i < σ.length) (hp : ∀ q ∈ pn, q.1 ≠ i) (x : Ext H0 H H0' H') (r : VR K He H H0' H' o t v) (h : wpAsg env i own t o k) :
    ∃ H0n env' fps', StR K pn He H0e H0n H' (σ.set i (some v)) env' fps' ∧ k env' := by
  cases own with
  | none =>
    cases o with
    | bor d =>
      obtain ⟨f, h1, h2⟩ := r
      refine ⟨H0', _, _, (S.mono x).putV hi ?_ hp, h⟩
      cases d with
      | zero => exact h1.2
      | succ d => exact ⟨f, h1, h2⟩
    | fr d =>
      obtain ⟨f, h1, h2, h3⟩ := r
      exact ⟨_, _, _, (S.mono x.frzN).putV (s := .sh t) hi (own_rep (same_frzN x.le) d t v f (fun y hy => frzN_new (h3 y hy).1) h1) hp, h⟩
  | some d =>
    cases o with
    | bor e => exact h.elim
    | fr e =>
      obtain ⟨e1, h⟩ := h
      subst e1
      obtain ⟨f, h1, h2, h3⟩ := r
      refine ⟨H0', _, _, (S.mono x).put (w := some v) (s := .ow e t) (f := f) hi ⟨v, List.getElem?_set_self hi, h1⟩ h2 (fun j a hj ha hm => ?_) (fun a ha => ⟨(h3 a ha).2, S.heH.free (h3 a ha).1⟩) (fun q hq e => absurd e (hp q hq)), h⟩
      have q := S.slot j
      have : ∃ u, H a = some u := by
        revert q hm
        cases env.get j with
        | em => intro hm q; rw [show fps j = [] from q] at hm; cases hm
        | sh t => intro hm q; rw [q.1] at hm; cases hm
        | br d t => intro hm q; rw [q.1] at hm; cases hm
        | al r p => intro hm q; rw [q.1] at hm; cases hm
        | slf C ns ts =>
          intro hm q
          obtain ⟨b, dx, vs, e1, _, e, _⟩ := q
          rw [e1] at hm
          rw [List.mem_singleton.mp hm]
          exact ⟨_, e⟩
        | ow d t =>
          intro hm q
          obtain ⟨v, b, c⟩ := q
          obtain ⟨xs, e⟩ := own_in d t v _ c a hm
          exact ⟨_, e⟩
      obtain ⟨u, e⟩ := this
      rw [(h3 a ha).1] at e
      cases e
theorem asg_pre (M : Γ.Mono) {i : Nat} {own : Option Nat} {e : TE} {E : Ends} (hi : i < σ.length) (h : trS Γ rd K (.asg i own e) E σ H) : trE Γ rd K e σ H fun x H1 => gName i x σ H1 E.nx := by
  obtain ⟨pn, He, H0e, H0, env, fps, D, ok, S, L, h⟩ := h
  unfold wpS at h
  refine trE_of M S h fun t o H1 H' v x r q => ?_
  obtain ⟨H0n, env', fps', S', q⟩ := asg_key S hi (okP_ne ok List.mem_cons_self) x r q
  exact L.nx _ _ _ _ _ S' q
theorem idx_lt {α : Type} {l : List α} {i : Nat} {x : α} (h : l[i]? = some x) : i < l.length := (List.getElem?_eq_some_iff.mp h).1
theorem ss_asg (M : Γ.Mono) (G : Good c n C X N sc) {i : Nat} {x : Str} {own : Option Nat} {e : Expr} {te : TE} {p pos : Pos} (hi : N[i]? = some x) (hv : sc.names.lookup x = some .local ∨ sc.names.lookup x = some .cell) (he : PE X e (trE Γ rd X.K te))
    (hs : swapsWith e (some (.Name x p)) pos.line X.env = pure false) : PS X (.Assign [.Name x p] e pos) (trS Γ rd X.K (.asg i own te)) :=
  PS.mono (ps_set (i := i) (by rw [G.hN]; exact G.nd) (by rw [G.hN]; exact hi) (G.loc hv).1 he hs (G.loc hv).2) fun E σ H hl h => asg_pre M (by rw [hl, G.hN]; exact idx_lt hi) h
theorem ss_asgLc (M : Γ.Mono) (G : Good c n C X N sc) {d : Nat} {it : It} {cs : TEs} {te : TE} {i : Nat} {y : Str} {py spos : Pos} {own' : Option Nat} (hy : N[i]? = some y) (hyl : X.env.scope.names.lookup y = some .local)
    {elt tg iter : Expr} {ifs : List Expr} {scope : Scope} {own : List (Str × Nat)} {pos : Pos} (hsw : swapsWith (.ListComp elt [⟨tg, iter, ifs, 0⟩] scope pos) (some (.Name y py)) spos.line X.env = pure true) (ok : BlkOk X.N X.env.scope scope own) (hown : own.map (·.2) = it.slots) (hsl : ∀ i ∈ it.slots, i < N.length)
    (hi : PI X tg iter (trI Γ rd X.K it)) (hg : ∀ (s : Shared) (H : Hp) (C : Addr) (cl : List (Str × Addr)) (fp : List Addr), PG (X.blk s H scope (compEnvC scope cl C X.env) fp) tg (gOf X.K it))
    (ht : ∀ (s : Shared) (H : Hp) (C : Addr) (cl : List (Str × Addr)) (fp : List Addr), PTs (X.blk s H scope (compEnvC scope cl C X.env) fp) ifs (trC Γ rd X.K cs))
    (he : ∀ (s : Shared) (H : Hp) (C : Addr) (cl : List (Str × Addr)) (fp : List Addr), PE (X.blk s H scope (compEnvC scope cl C X.env) fp) elt (trE Γ rd X.K te)) (hs : ∀ x, foldedSetIterable iter X.env x = pure x) :
    PS X (.Assign [.Name y py] (.ListComp elt [⟨tg, iter, ifs, 0⟩] scope pos) spos) (trS Γ rd X.K (.asg i own' (.lc d it cs te))) := by
  refine PS.mono (ps_setLc (i := i) G.calm (by rw [G.hN]; exact G.nd) (by rw [G.hN]; exact hy) hyl hsw hi ok hg ht he hs) fun E σ H hl h => ?_
  rw [hown]
  rw [G.hN] at hl
  exact lc_read (N := N) M hsl hl (asg_pre M (by rw [hl]; exact idx_lt hy) h)
theorem ss_asgLc2 (M : Γ.Mono) (G : Good c n C X N sc) {d : Nat} {it it2 : It} {cs cs2 : TEs} {te : TE} {i : Nat} {y : Str} {py spos : Pos} {own' : Option Nat} (hy : N[i]? = some y) (hyl : X.env.scope.names.lookup y = some .local)
    {elt tg iter tg2 iter2 : Expr} {ifs ifs2 : List Expr} {scope : Scope} {own : List (Str × Nat)} {pos : Pos} (hsw : swapsWith (.ListComp elt [⟨tg, iter, ifs, 0⟩, ⟨tg2, iter2, ifs2, 0⟩] scope pos) (some (.Name y py)) spos.line X.env = pure true) (ok : BlkOk X.N X.env.scope scope own) (hown : own.map (·.2) = it.slots ++ it2.slots) (hsl : ∀ i ∈ it.slots ++ it2.slots, i < N.length)
    (hi : PI X tg iter (trI Γ rd X.K it)) (hg : ∀ (s : Shared) (H : Hp) (C : Addr) (cl : List (Str × Addr)) (fp : List Addr), PG (X.blk s H scope (compEnvC scope cl C X.env) fp) tg (gOf X.K it))
    (ht : ∀ (s : Shared) (H : Hp) (C : Addr) (cl : List (Str × Addr)) (fp : List Addr), PTs (X.blk s H scope (compEnvC scope cl C X.env) fp) ifs (trC Γ rd X.K cs))
    (hi2 : ∀ (s : Shared) (H : Hp) (C : Addr) (cl : List (Str × Addr)) (fp : List Addr), PI (X.blk s H scope (compEnvC scope cl C X.env) fp) tg2 iter2 (trI Γ rd X.K it2)) (hg2 : ∀ (s : Shared) (H : Hp) (C : Addr) (cl : List (Str × Addr)) (fp : List Addr), PG (X.blk s H scope (compEnvC scope cl C X.env) fp) tg2 (gOf X.K it2))
    (ht2 : ∀ (s : Shared) (H : Hp) (C : Addr) (cl : List (Str × Addr)) (fp : List Addr), PTs (X.blk s H scope (compEnvC scope cl C X.env) fp) ifs2 (trC Γ rd X.K cs2))
    (he : ∀ (s : Shared) (H : Hp) (C : Addr) (cl : List (Str × Addr)) (fp : List Addr), PE (X.blk s H scope (compEnvC scope cl C X.env) fp) elt (trE Γ rd X.K te)) (hs : ∀ x, foldedSetIterable iter X.env x = pure x) (hs2 : ∀ env x, foldedSetIterable iter2 env x = pure x) :
    PS X (.Assign [.Name y py] (.ListComp elt [⟨tg, iter, ifs, 0⟩, ⟨tg2, iter2, ifs2, 0⟩] scope pos) spos) (trS Γ rd X.K (.asg i own' (.lc2 d it it2 cs cs2 te))) := by
  refine PS.mono (ps_setLc2 (i := i) (vs1 := it2.slots) G.calm (by rw [G.hN]; exact G.nd) (by rw [G.hN]; exact hy) hyl hsw hi ok (fun i hi => by rw [hown]; exact List.mem_append_right _ hi) hg ht hi2 hg2 ht2 he hs hs2) fun E σ H hl h => ?_
  rw [hown]
  rw [G.hN] at hl
  exact lc2_read (N := N) M hsl hl (asg_pre M (by rw [hl]; exact idx_lt hy) h)
/-! ### places -/
def trL (Γ : Gam) (rd : Nat → Nat) (K : PySem.W.Frag) (i : Nat) (es : TEs) : L2.TE := fun σ H Q => ∃ pn He H0e H0 env fps, StR K pn He H0e H0 H σ env fps ∧ wpL Γ rd i es env fun r d t p => ∀ H0' H' v vr, Ext H0 H H0' H' → σ[r]? = some (some vr) → env.get r = .ow d t → NodeAt H' vr p v → p.length ≤ d → (t.at p).isSome = true → Q v H'
theorem trL_of (M : Γ.Mono) {i : Nat} {es : TEs} {k : Nat → Nat → T → List Nat → Prop} {Q : VK} (S : StR K pn He H0e H0 H σ env fps) (h : wpL Γ rd i es env k) (hk : ∀ r d t p H0' H' v vr, Ext H0 H H0' H' → σ[r]? = some (some vr) → env.get r = .ow d t → NodeAt H' vr p v → p.length ≤ d → (t.at p).isSome = true → k r d t p → Q v H') : trL Γ rd K i es σ H Q :=
  ⟨pn, He, H0e, H0, env, fps, S, wpL_mono M i es env _ _ (fun r d t p q H0' H' v vr x a b e f g => hk r d t p H0' H' v vr x a b e f g q) h⟩
theorem l_nil (M : Γ.Mono) {i : Nat} {x : Str} {pos : Pos} (G : Good c n C X N sc) (hi : N[i]? = some x) (hv : sc.names.lookup x = some .local ∨ sc.names.lookup x = some .cell ∨ sc.names.lookup x = some .free)
    (hd : (x == ("__debug__" : Str)) = false) (hc : (x == ("__classdict__" : Str)) = false) : PE X (.Name x pos) (trL Γ rd X.K i .nil) := by
  refine PE.mono (pe_var (i := i) (by rw [G.hN]; exact hi) (G.vis hv) hd hc) fun σ H Q h => ?_
  obtain ⟨pn, He, H0e, H0, env, fps, S, h⟩ := h
  unfold wpL lvT at h
  have q := S.slot i
  split at h
  · rename_i d t e
    rw [e] at q
    obtain ⟨v, e1, r⟩ := q
    exact ⟨v, e1, h H0 H v v (Ext.refl S.le) e1 e rfl (Nat.zero_le _) (by simp [T.at])⟩
  · rename_i r p e
    rw [e] at q
    obtain ⟨_, v, vr, d, t, e1, e2, e3, nd, l, z⟩ := q
    rw [e3] at h
    exact ⟨v, e1, h H0 H v vr (Ext.refl S.le) e2 e3 nd l z⟩
  · exact h.elim
/-- the list at a place -/
theorem StR.at (S : StR K pn He H0e H0 H σ env fps) {r d : Nat} {p : List Nat} {ts : List T} {vr w : V} (hv : σ[r]? = some (some vr)) (hr : env.get r = .ow d t) (nd : NodeAt H vr p w) (hp : p.length < d) (ha : t.at p = some (.lst ts)) :
    ∃ a vs, w = .ref a ∧ H a = some (.lst vs) ∧ vs.length = ts.length := by
  have q := S.slot r
  rw [hr] at q
  obtain ⟨v', e1, o⟩ := q
  rw [hv] at e1
  cases e1
  obtain ⟨f, h1, h2⟩ := own_at o nd ha (Nat.le_of_lt hp)
  have : ∃ m, d - p.length = m + 1 := ⟨d - p.length - 1, by omega⟩
  obtain ⟨m, e⟩ := this
  rw [e] at h1
  obtain ⟨a, vs, g, q1, q2, q3, o⟩ := h1
  exact ⟨a, vs, q1, q2, o.len⟩
theorem l_cons (M : Γ.Mono) {i : Nat} {e : TE} {es : TEs} {a b : Expr} {pos : Pos} (hp : nsl b = true) (ha : PE X a (trL Γ rd X.K i es)) (hb : PE X b (trE Γ rd X.K e)) : PE X (.Subscript a b pos) (trL Γ rd X.K i (.cons e es)) := by
  refine PE.mono (pe_ix ix_list ha hb (plainIx hp)) fun σ H Q h => ?_
  obtain ⟨pn, He, H0e, H0, env, fps, S, h⟩ := h
  unfold wpL at h
  refine trL_of M S h fun r d t p H1 H' v vr x e1 e2 e3 e4 e5 q => ?_
  refine trE_of M (S.mono x) q fun u o H2 H'' w x2 r2 q => ?_
  cases u with
  | int k =>
    obtain ⟨hl, ts, m, h1, h2, q⟩ := q
    have S2 := (S.mono x).mono x2
    obtain ⟨pa, vs, w1, w2, w3⟩ := S2.at e1 e2 (e3.mono x2.s) hl h1
    obtain ⟨_, hm, _, _⟩ := ixN_seq h2
    have hm' : m < vs.length := by omega
    refine ⟨pa, vs, k, vs[m], w1, r2.int, .inl (.inl w2), ?_, q H2 H'' _ vr (x.trans x2) e1 e2 ?_ ?_ ?_⟩
    · unfold atI
      rw [w3, h2]
      exact List.getElem?_eq_getElem hm'
    · subst w1
      exact node_one (e3.mono x2.s) w2 (List.getElem?_eq_getElem hm')
    · rw [List.length_append]
      exact hl
    · rw [at_one (p := p) h1 hm, List.getElem?_eq_getElem hm]
      rfl
  | _ => exact q.elim
theorem ss_ali (M : Γ.Mono) (G : Good c n C X N sc) {i j : Nat} {x : Str} {es : TEs} {e : Expr} {p pos : Pos} (hi : N[i]? = some x) (hv : sc.names.lookup x = some .local ∨ sc.names.lookup x = some .cell) (he : PE X e (trL Γ rd X.K j es))
    (hs : swapsWith e (some (.Name x p)) pos.line X.env = pure false) : PS X (.Assign [.Name x p] e pos) (trS Γ rd X.K (.ali i j es)) := by
  refine PS.mono (ps_set (i := i) (by rw [G.hN]; exact G.nd) (by rw [G.hN]; exact hi) (G.loc hv).1 he hs (G.loc hv).2) fun E σ H hl h => ?_
  obtain ⟨pn, He, H0e, H0, env, fps, D, ok, S, L, h⟩ := h
  unfold wpS at h
  refine trL_of M S h fun r d t p H1 H' v vr x e1 e2 e3 e4 e5 q => ?_
  obtain ⟨ne, q⟩ := q
  have ii : i < σ.length := by rw [hl, G.hN]; exact idx_lt hi
  have S1 := S.mono x
  refine L.nx _ _ _ _ _ (S1.put (w := some v) (s := .al r p) (f := []) ii ⟨rfl, v, vr, d, t, List.getElem?_set_self ii, (List.getElem?_set_ne ne).trans e1, ?_, e3, e4, e5⟩ .nil (fun j a _ ha => by cases ha) (fun a ha => by cases ha) (fun q hq e => absurd e (okP_ne ok List.mem_cons_self q hq))) q
  rw [get_store (by rw [S1.len]; exact ii), if_neg ne, e2]
  rfl
/-! ### lists changed -/
theorem keep_key {m : Nat} {k : Prop} (x : Ext H0 H H0' H') (r : VR K He H H0' H' o t v) (h : keep m t o k) : k ∧ ∃ H0n g, Ext H0 H H0n H' ∧ Own K H0n H' m t v g ∧ g.Nodup ∧ ∀ a ∈ g, H a = none ∧ H0n a = none := by
  cases m with
  | zero =>
    obtain ⟨hk, rp⟩ := r.taken x h
    exact ⟨hk, _, [], x.frzN, ⟨rfl, rp⟩, .nil, fun a ha => by cases ha⟩
  | succ m =>
    have flat : t.isLst = false → Own K H0' H' (m + 1) t v [] := fun hf => own_flat hf (r.rep hf)
    cases o with
    | fr e =>
      cases t with
      | lst ts =>
        obtain ⟨e0, h2⟩ := h
        obtain ⟨g, a, b, c⟩ := r
        rcases e0 with e0 | ⟨e0, e0'⟩
        · subst e0
          exact ⟨h2, H0', g, x, a, b, c⟩
        · exact ⟨h2, H0', g, x, own_flatL e0 e0' a, b, c⟩
      | _ => exact ⟨h, H0', [], x, flat rfl, .nil, fun a ha => by cases ha⟩
    | bor e =>
      cases t with
      | lst ts => exact h.elim
      | _ => exact ⟨h, H0', [], x, flat rfl, .nil, fun a ha => by cases ha⟩
/-- one's own stand in the heap -/
theorem StR.live (S : StR K pn He H0e H0 H σ env fps) {j : Nat} {a : Addr} (hm : a ∈ fps j) : ∃ u, H a = some u := by
  have q := S.slot j
  revert q hm
  cases env.get j with
  | em => intro hm q; rw [show fps j = [] from q] at hm; cases hm
  | sh t => intro hm q; rw [q.1] at hm; cases hm
  | br d t => intro hm q; rw [q.1] at hm; cases hm
  | al r p => intro hm q; rw [q.1] at hm; cases hm
  | slf C ns ts =>
    intro hm q
    obtain ⟨b, dx, vs, e1, _, e, _⟩ := q
    rw [e1] at hm
    rw [List.mem_singleton.mp hm]
    exact ⟨_, e⟩
  | ow d t =>
    intro hm q
    obtain ⟨v, b, c⟩ := q
    obtain ⟨xs, e⟩ := own_in d t v _ c a hm
    exact ⟨_, e⟩
/-- a value stored into a list of one's own -/
theorem mut_key {r d : Nat} {p : List Nat} {ts : List T} {vr : V} {F : List T → T → List T} {Fv : List V → V → List V} (S : StR K pn He H0e H0 H σ env fps) (x : Ext H0 H H0' H') (rv : VR K He H H0' H' o t v) {tr : T} (hr : env.get r = .ow d tr) (ha : tr.at p = some (.lst ts)) (hp : p.length < d) (hv : σ[r]? = some (some vr)) {a : Addr} (hn : NodeAt H' vr p (.ref a))
    (hF : ∀ (P : T → V → List Addr → Prop) vs f g, Owns P ts vs f → P t v g → f.Nodup → g.Nodup → (∀ b ∈ f, b ∉ g) → ∃ f', Owns P (F ts t) (Fv vs v) f' ∧ f'.Nodup ∧ ∀ b ∈ f', b ∈ f ∨ b ∈ g)
    {Z : Prop} (h : keep (d - p.length - 1) t o Z) : ∃ vs H0n fp', H' a = some (.lst vs) ∧ vs.length = ts.length ∧ Z ∧ StR K pn He H0e H0n (upd H' a (.lst (Fv vs v))) σ (env.mut r p.length (.ow d (tr.put p (.lst (F ts t))))) fp' := by
  obtain ⟨hz, H0n, g, x2, og, ng, fg⟩ := keep_key x rv h
  have S2 := S.mono x2
  obtain ⟨vs, f, h1, h2, h3, h4, h5, fin⟩ := S2.mutate hr ha hp hv hn
  obtain ⟨ua, eua⟩ := S.live h5
  have ga : ∀ b ∈ g, b ≠ a := fun b hb z => by
    rw [← z, (fg b hb).1] at eua
    cases eua
  have o1 : Owns (Own K H0n (upd H' a (.lst (Fv vs v))) (d - p.length - 1)) ts vs f := h2.imp fun t v f' hf q => own_imp (Same.refl _) _ t v f' (fun b hb => upd_ne (h4 b (hf b hb)).1) q
  have o2 : Own K H0n (upd H' a (.lst (Fv vs v))) (d - p.length - 1) t v g := own_imp (Same.refl _) _ t v g (fun b hb => upd_ne (ga b hb)) og
  have live : ∀ j b, b ∈ fps j → b ∉ g := fun j b hb hg => by
    obtain ⟨u, e⟩ := S.live hb
    rw [(fg b hg).1] at e
    cases e
  obtain ⟨f', w1, w2, w3⟩ := hF _ vs f g o1 o2 h3 ng fun b hb => live r b (h4 b hb).2
  obtain ⟨fp', S3, _⟩ := fin _ _ f' w1 w2 fun b hb => (w3 b hb).imp id fun hg => ⟨fun j hj => live j b hj hg, (fg b hg).2, S.heH.free (fg b hg).1⟩
  exact ⟨vs, H0n, _, h1, h2.len, hz, S3⟩
theorem hF_app {ts : List T} (P : T → V → List Addr → Prop) (vs : List V) (f g : List Addr) (o : Owns P ts vs f) (q : P t v g) (nf : f.Nodup) (ng : g.Nodup) (dj : ∀ b ∈ f, b ∉ g) : ∃ f', Owns P (ts ++ [t]) (vs ++ [v]) f' ∧ f'.Nodup ∧ ∀ b ∈ f', b ∈ f ∨ b ∈ g :=
  ⟨f ++ g, o.append (us := [t]) (ws := [v]) (g := g) ⟨v, [], g, [], rfl, by simp, q, rfl, rfl⟩, List.nodup_append.mpr ⟨nf, ng, fun a ha b hb z => dj a ha (z ▸ hb)⟩, fun b hb => List.mem_append.mp hb⟩
theorem ss_app (M : Γ.Mono) {i : Nat} {es : TEs} {te : TE} {o e : Expr} {apos cpos pos : Pos} (hl : PE X o (trL Γ rd X.K i es)) (he : PE X e (trE Γ rd X.K te)) (hn : nst e = true) (hbase : attributeBase o "append" X.env (eval o X.env) = eval o X.env) (hline : (apos.endLine == cpos.line) = true) :
    PS X (.Expr (.Call (.Attribute o "append" apos) [e] [] cpos) pos) (trS Γ rd X.K (.app i es te)) := by
  have st : starEach [e] X.env = (false, eval e X.env) :: starEach [] X.env := star_of' hn
  refine PS.mono (ps_expr (pe_bm PySem.F.plainAttrs_list PySem.F.slot_list_append PySem.F.type_list_append mt_append hl (pa_cons he pa_nil st) hbase ?_ hline st (any_star (es := []) rfl)) ?_) fun E σ H hlen h => ?_
  · rw [st]
    rfl
  · rfl
  obtain ⟨pn, He, H0e, H0, env, fps, D, ok, S, L, h⟩ := h
  unfold wpS at h
  refine trL_of M S h fun r d t p H1 H' v vr x e1 e2 e3 e4 e5 q => ?_
  obtain ⟨ts, h1, h2, h3, q⟩ := q
  have S1 := S.mono x
  obtain ⟨a, vs, w1, w2, w3⟩ := S1.at e1 e2 e3 h2 h1
  subst w1
  refine ⟨.inl ⟨rfl, vs, .inl (.inl w2)⟩, ?_⟩
  refine trE_of M S1 q fun u o' H2 H'' w x2 r2 q => ?_
  obtain ⟨vs', H0n, fp', g1, g2, hz, S3⟩ := mut_key (F := fun ts t => ts ++ [t]) (Fv := fun vs v => vs ++ [v]) S1 x2 r2 e2 h1 h2 e1 (e3.mono x2.s) (fun P vs f g => hF_app P vs f g) q
  exact ⟨a, vs', w, rfl, rfl, g1, by rw [g2]; exact h3, L.nx _ _ _ _ _ S3 hz⟩
theorem get_mut {env : Env} {r n : Nat} {s : Sl} (h : r < env.length) (j : Nat) : (env.mut r n s).get j = if r = j then s else Sl.muted r n (env.get j) := by
  unfold Env.mut
  rw [get_put _ _ _ _ (by rw [List.length_map]; exact h), get_map rfl]
theorem len_mut (env : Env) (r n : Nat) (s : Sl) : (env.mut r n s).length = env.length := by
  unfold Env.mut
  rw [len_put, List.length_map]
theorem at_same : ∀ {p : List Nat} {t x : T}, (t.at p).isSome = true → (t.put p x).at p = some x
  | [], t, x, _ => by simp [T.put, T.at]
  | k :: p, t, x, h => by
    cases t with
    | lst ts =>
      unfold T.at at h
      split at h
      · rename_i u hu
        have e : T.put (.lst ts) (k :: p) x = .lst (ts.set k (u.put p x)) := by
          rw [T.put, hu]
        rw [e]
        have hk : k < ts.length := idx_lt hu
        unfold T.at
        rw [List.getElem?_set_self hk]
        exact at_same h
      · cases h
    | _ => unfold T.at at h; cases h
theorem mv_env {env : Env} {r j n : Nat} {s s' : Sl} (hr : r < env.length) (hj : j < env.length) (ne : j ≠ r) (hs : Sl.unroot j s = s) : ((env.store j .em).mut r n s).store j s' = (env.mut r n s).store j s' := by
  refine env_ext (by simp only [len_store, len_mut]) fun i => ?_
  rw [get_store (by rw [len_mut, len_store]; exact hj), get_store (by rw [len_mut]; exact hj)]
  by_cases e : j = i
  · rw [if_pos e, if_pos e]
  · rw [if_neg e, if_neg e, get_mut (by rw [len_store]; exact hr), get_mut hr]
    by_cases e2 : r = i
    · rw [if_pos e2, if_pos e2]
    · rw [if_neg e2, if_neg e2, get_store hj, if_neg e]
      cases env.get i with
      | al r' p =>
        show Sl.unroot j (Sl.muted r n (if r' = j then .em else .al r' p)) = Sl.unroot j (Sl.muted r n (.al r' p))
        by_cases e3 : r' = j
        · rw [if_pos e3]
          show _ = Sl.unroot j (if r' = r then (if n < p.length then .em else .al r' p) else .al r' p)
          rw [if_neg (by rw [e3]; exact ne)]
          show Sl.em = (if r' = j then .em else .al r' p)
          rw [if_pos e3]
        · rw [if_neg e3]
      | _ => rfl
/-- a list of one's own goes into another -/
theorem ss_mv (M : Γ.Mono) (G : Good c n C X N sc) {i j : Nat} {y : Str} {es : TEs} {o : Expr} {apos cpos pos yp : Pos} (hl : PE X o (trL Γ rd X.K i es)) (hj : N[j]? = some y) (hv : sc.names.lookup y = some .local ∨ sc.names.lookup y = some .cell ∨ sc.names.lookup y = some .free)
    (hd : (y == ("__debug__" : Str)) = false) (hc : (y == ("__classdict__" : Str)) = false) (hbase : attributeBase o "append" X.env (eval o X.env) = eval o X.env) (hline : (apos.endLine == cpos.line) = true) :
    PS X (.Expr (.Call (.Attribute o "append" apos) [.Name y yp] [] cpos) pos) (trS Γ rd X.K (.appMv i es j)) := by
  have st : starEach [.Name y yp] X.env = (false, eval (.Name y yp) X.env) :: starEach [] X.env := rfl
  refine PS.mono (ps_expr (pe_bm PySem.F.plainAttrs_list PySem.F.slot_list_append PySem.F.type_list_append mt_append hl (pa_cons (pe_var (i := j) (by rw [G.hN]; exact hj) (G.vis hv) hd hc) pa_nil st) hbase ?_ hline st (any_star (es := []) rfl)) ?_) fun E σ H hlen h => ?_
  · rfl
  · rfl
  obtain ⟨pn, He, H0e, H0, env, fps, D, ok, S, L, h⟩ := h
  unfold wpS at h
  refine trL_of M S h fun r d t p H1 H' v vr x e1 e2 e3 e4 e5 q => ?_
  obtain ⟨ts, h1, h2, h3, q⟩ := q
  have S1 := S.mono x
  obtain ⟨a, vs, w1, w2, w3⟩ := S1.at e1 e2 e3 h2 h1
  subst w1
  refine ⟨.inl ⟨rfl, vs, .inl (.inl w2)⟩, ?_⟩
  unfold wpMv at q
  split at q
  · rename_i e u ej
    obtain ⟨q1, q2, q⟩ := q
    subst q1
    have qj := S1.slot j
    rw [ej] at qj
    obtain ⟨vj, j1, j2⟩ := qj
    refine ⟨vj, j1, a, vs, vj, rfl, rfl, w2, by rw [w3]; exact h3, ?_⟩
    have jl : j < σ.length := by rw [← S.len]; exact get_lt (by rw [ej]; exact Sl.noConfusion)
    have rl : r < σ.length := by rw [← S.len]; exact get_lt (by rw [e2]; exact Sl.noConfusion)
    have jl' : j < env.length := by rw [S.len]; exact jl
    have rl' : r < env.length := by rw [S.len]; exact rl
    have S2 := S1.re (s := .em) jl rfl
    have er : (env.store j .em).get r = .ow d t := by
      rw [get_store jl', if_neg q2, e2]
      rfl
    obtain ⟨vs', f, g1, g2, g3, g4, g5, fin⟩ := S2.mutate er h1 h2 e1 e3
    rw [w2] at g1
    cases g1
    have fr : fpUpd fps j [] r = fps r := if_neg q2
    rw [fr] at g4 g5
    have jr : ∀ b ∈ fps j, b ∉ fps r := fun b hb hm => S.dj j r b q2 hb hm
    have o1 : Owns (Own X.K H1 (upd H' a (.lst (vs ++ [vj]))) (d - p.length - 1)) ts vs f := g2.imp fun t v f' hf z => own_imp (Same.refl _) _ t v f' (fun b hb => upd_ne (g4 b (hf b hb)).1) z
    have o2 : Own X.K H1 (upd H' a (.lst (vs ++ [vj]))) (d - p.length - 1) u vj (fps j) := own_imp (Same.refl _) _ u vj _ (fun b hb => upd_ne fun z => jr b hb (z ▸ g5)) j2
    obtain ⟨fp', S3, _⟩ := fin (ts ++ [u]) (vs ++ [vj]) (f ++ fps j) (o1.append (us := [u]) (ws := [vj]) (g := fps j) ⟨vj, [], fps j, [], rfl, by simp, o2, rfl, rfl⟩)
      (List.nodup_append.mpr ⟨g3, S.nd j, fun b hb b' hb' z => jr b' hb' (z ▸ (g4 b hb).2)⟩) fun b hb => by
        rcases List.mem_append.mp hb with z | z
        · exact .inl z
        · refine .inr ⟨fun k hk => ?_, (S1.out j b z).1, (S1.out j b z).2⟩
          unfold fpUpd at hk
          by_cases e : j = k
          · rw [if_pos e] at hk; cases hk
          · rw [if_neg e] at hk; exact S.dj j k b e z hk
    have qr := S1.slot r
    rw [e2] at qr
    obtain ⟨vr', r1, r2⟩ := qr
    rw [e1] at r1
    cases r1
    have nk : NodeAt (upd H' a (.lst (vs ++ [vj]))) vr p (.ref a) := node_keep r2 (S.nd r) h1 h2 e3 (fun b _ hb => upd_ne hb) (Nat.le_refl _) (by rw [h1]; rfl) e3
    have l0 := g2.len
    have S4 := S3.re (i := j) (s := .al r (p ++ [ts.length])) jl ⟨rfl, vj, vr, d, t.put p (.lst (ts ++ [u])), j1, e1, by
        rw [get_store (by rw [len_mut, len_store]; exact jl'), if_neg q2, get_mut (by rw [len_store]; exact rl'), if_pos rfl]
        rfl, node_one nk upd_same (by rw [← l0]; simp), by rw [List.length_append]; exact h2, by
        rw [at_one (p := p) (at_same (by rw [h1]; rfl)) (by simp)]
        simp⟩
    rw [mv_env rl' jl' q2 rfl] at S4
    exact L.nx _ _ _ _ _ S4 q
  · exact q.elim
theorem hF_set {ts : List T} {i : Nat} (hi : i < ts.length) (P : T → V → List Addr → Prop) (vs : List V) (f g : List Addr) (o : Owns P ts vs f) (q : P t v g) (nf : f.Nodup) (ng : g.Nodup) (dj : ∀ b ∈ f, b ∉ g) : ∃ f', Owns P (ts.set i t) (vs.set i v) f' ∧ f'.Nodup ∧ ∀ b ∈ f', b ∈ f ∨ b ∈ g := by
  obtain ⟨w, g1, g0, g2, h1, h2, h3, h4⟩ := o.set (i := i) (t' := t) (v' := v) (f' := g) (List.getElem?_eq_getElem hi) q
  subst h2
  obtain ⟨n1, n2, n3⟩ := List.nodup_append.mp nf
  obtain ⟨n4, n5, n6⟩ := List.nodup_append.mp n2
  refine ⟨_, h4, ?_, fun b hb => ?_⟩
  · refine List.nodup_append.mpr ⟨n1, List.nodup_append.mpr ⟨ng, n5, fun a ha b hb z => dj b (List.mem_append_right _ (List.mem_append_right _ hb)) (z ▸ ha)⟩, fun a ha b hb z => ?_⟩
    rcases List.mem_append.mp hb with hb | hb
    · exact dj a (List.mem_append_left _ ha) (z ▸ hb)
    · exact n3 a ha b (List.mem_append_right _ hb) z
  · rcases List.mem_append.mp hb with hb | hb
    · exact .inl (List.mem_append_left _ hb)
    · rcases List.mem_append.mp hb with hb | hb
      · exact .inr hb
      · exact .inl (List.mem_append_right _ (List.mem_append_right _ hb))
theorem ss_sto (M : Γ.Mono) {i : Nat} {es : TEs} {tk te : TE} {o k e : Expr} {tpos pos : Pos} (hl : PE X o (trL Γ rd X.K i es)) (hk : PE X k (trE Γ rd X.K tk)) (he : PE X e (trE Γ rd X.K te)) (hn : nsl k = true)
    (hs : swapsWithSole [.Subscript o k tpos] e pos.line X.env = pure false) (hw : swappedStores [.Subscript o k tpos] e X.env = pure none) :
    PS X (.Assign [.Subscript o k tpos] e pos) (trS Γ rd X.K (.sto i es tk te)) := by
  refine PS.mono (ps_asg he (pg_sub hl hk set_list ?_) hs hw ?_) fun E σ H hlen h => ?_
  · intro v
    cases k <;> first | rfl | cases hn
  · rfl
  obtain ⟨pn, He, H0e, H0, env, fps, D, ok, S, L, h⟩ := h
  unfold wpS at h
  refine trE_of M S h fun u o' H1 H' w x1 r1 q => ?_
  refine trL_of M (S.mono x1) q fun r d t p H2 H'' v vr x2 e1 e2 e3 e4 e5 q => ?_
  refine trE_of M ((S.mono x1).mono x2) q fun y oy H3 H3' vk x3 r3 q => ?_
  cases y with
  | int m =>
    obtain ⟨ts, m', h1, h2, h3, q⟩ := q
    have S3 := ((S.mono x1).mono x2).mono x3
    obtain ⟨a, vs, w1, w2, w3⟩ := S3.at e1 e2 (e3.mono x3.s) h2 h1
    subst w1
    obtain ⟨_, hm, _, _⟩ := ixN_seq h3
    obtain ⟨vs', H0n, fp', g1, g2, hz, S4⟩ := mut_key (F := fun ts t => ts.set m' t) (Fv := fun vs v => vs.set m' v) S (x1.trans (x2.trans x3)) (r1.ext (x2.trans x3)) e2 h1 h2 e1 (e3.mono x3.s) (fun P vs f g => hF_set hm P vs f g) q
    exact ⟨a, vs', m, m', rfl, r3.int, g1, by rw [g2]; exact h3, L.nx _ _ _ _ _ S4 hz⟩
  | _ => exact q.elim
/-! ### a, b = a tuple -/
def gNames : List Nat → TGs
  | [] => gNil
  | i :: is => gCons (gName i) (gNames is)
def nmEs (N : List Str) (sc : Scope) : List Nat → List Expr → Prop
  | [], es => es = []
  | i :: is, es => ∃ x p r, es = .Name x p :: r ∧ N[i]? = some x ∧ (sc.names.lookup x = some .local ∨ sc.names.lookup x = some .cell) ∧ nmEs N sc is r
theorem g_names (G : Good c n C X N sc) : ∀ {is : List Nat} {es : List Expr}, nmEs N sc is es → PGs X es (gNames is) ∧ (assignEach es X.env).length = is.length ∧ (assignEach es X.env).findIdx? (·.1) = none
  | [], es, h => by
    have e : es = [] := h
    subst e
    exact ⟨pgs_nil, rfl, rfl⟩
  | i :: is, es, h => by
    obtain ⟨x, p, r, e, h1, h2, h3⟩ := h
    subst e
    obtain ⟨k1, k2, k3⟩ := g_names G h3
    refine ⟨pgs_cons (pg_name (i := i) (by rw [G.hN]; exact G.nd) (by rw [G.hN]; exact h1) (G.loc h2).1 (G.loc h2).2) k1, ?_, ?_⟩
    · show (assignEach r X.env).length + 1 = _
      rw [k2]
      rfl
    · show List.findIdx? _ ((false, _) :: assignEach r X.env) = none
      rw [List.findIdx?_cons]
      simp only [Bool.false_eq_true, if_false, k3]
      rfl
theorem run_names : ∀ {is : List Nat} {ts : List T} {vs : List V} {σ : L2.St} {H : Hp} {Q : L2.St → Hp → Prop}, vs.length = is.length → vs.length = ts.length → Q (sets σ (is.zip (ts.map Sl.sh)) vs) H → gNames is vs σ H Q
  | [], ts, [], σ, H, Q, _, _, q => ⟨rfl, by simpa [sets] using q⟩
  | [], ts, v :: vs, σ, H, Q, h, _, _ => by simp at h
  | i :: is, ts, [], σ, H, Q, h, _, _ => by simp at h
  | i :: is, [], v :: vs, σ, H, Q, _, h, _ => by simp at h
  | i :: is, t :: ts, v :: vs, σ, H, Q, h, h2, q => ⟨v, vs, rfl, run_names (is := is) (ts := ts) (vs := vs) (by simpa using h) (by simpa using h2) q⟩
theorem reps_SlVs : ∀ {is : List Nat} {ts : List T} {vs : List V}, is.length = ts.length → Reps K H0 ts vs → SlVs K He H0 H (is.zip (ts.map Sl.sh)) vs
  | [], [], vs, _, r => by
    have := reps_len r
    show vs = []
    exact List.length_eq_zero_iff.mp this
  | [], t :: ts, vs, h, _ => by simp at h
  | i :: is, [], vs, h, _ => by simp at h
  | i :: is, t :: ts, vs, h, r => by
    unfold Reps at r
    obtain ⟨v, w, e, r1, r2⟩ := r
    exact ⟨v, w, e, r1, reps_SlVs (is := is) (by simpa using h) r2⟩
theorem zip_mem {is : List Nat} {ts : List T} {p : Nat × Sl} (h : p ∈ is.zip (ts.map Sl.sh)) : p.1 ∈ is := (List.of_mem_zip (a := p.1) (b := p.2) h).1
theorem nmEs_lt : ∀ {is : List Nat} {es : List Expr}, nmEs N sc is es → ∀ i ∈ is, i < N.length
  | [], _, _, i, h => by cases h
  | j :: is, es, h, i, hi => by
    obtain ⟨x, p, r, e, h1, h2, h3⟩ := h
    rcases List.mem_cons.mp hi with e | e
    · rw [e]; exact idx_lt h1
    · exact nmEs_lt h3 i e
theorem ss_unp (M : Γ.Mono) (G : Good c n C X N sc) {is : List Nat} {te : TE} {es : List Expr} {m : Nat} {e : Expr} {tpos pos : Pos} (hes : nmEs N sc is es) (he : PE X e (trE Γ rd X.K te))
    (hs : swapsWithSole [.Tuple es m tpos] e pos.line X.env = pure false) (hw : swappedStores [.Tuple es m tpos] e X.env = pure none) :
    PS X (.Assign [.Tuple es m tpos] e pos) (trS Γ rd X.K (.unp is te)) := by
  obtain ⟨k1, k2, k3⟩ := g_names G hes
  refine PS.mono (ps_asg he (pg_tup G.calm k1 k2 k3) hs hw rfl) fun E σ H hlen h => ?_
  obtain ⟨pn, He, H0e, H0, env, fps, D, ok, S, L, h⟩ := h
  unfold wpS at h
  refine trE_of M S h fun u o' H1 H' w x1 r1 q => ?_
  obtain ⟨q, rp⟩ := r1.taken x1 q
  cases u with
  | tup ts =>
    obtain ⟨hl, q⟩ := q
    unfold Rep at rp
    obtain ⟨a, vs, e1, e2, e3⟩ := rp
    have l := reps_len e3
    obtain ⟨fps', S'⟩ := (S.mono x1.frzN).puts (l := is.zip (ts.map Sl.sh)) (vs := vs) (fun p hp => by rw [hlen, G.hN]; exact nmEs_lt hes _ (zip_mem hp)) (fun p hp => okP_ne ok (zip_mem hp)) (reps_SlVs hl.symm e3)
    exact ⟨a, vs, e1, sqT_mono x1.frzN.le e2, by rw [l, hl], run_names (by rw [l, hl]) l (L.nx _ _ _ _ _ S' q)⟩
  | _ => exact q.elim
/-! ### small ones -/
theorem ss_ex (M : Γ.Mono) {te : TE} {e : Expr} {pos : Pos} (he : PE X e (trE Γ rd X.K te)) (hs : swapsWith e none pos.line X.env = pure false) : PS X (.Expr e pos) (trS Γ rd X.K (.ex te)) := by
  refine PS.mono (ps_expr he hs) fun E σ H hlen h => ?_
  obtain ⟨pn, He, H0e, H0, env, fps, D, ok, S, L, h⟩ := h
  unfold wpS at h
  exact trE_of M S h fun t o H1 H' v x r q => L.nx _ _ _ _ _ (S.mono x) q
theorem nx_of {E : Ends} (h : trS Γ rd K .pas E σ H) : E.nx σ H := by
  obtain ⟨pn, He, H0e, H0, env, fps, D, ok, S, L, h⟩ := h
  unfold wpS at h
  exact L.nx _ _ _ _ _ S h
/-- a raise that is never reached -/
theorem ss_rse {st : Stmt} : PS X st (trS Γ rd X.K .rse) := ⟨fun pins s σ H D I h => by
  obtain ⟨_, _, _, _, _, _, _, _, _, _, h⟩ := h
  unfold wpS at h
  exact h.elim⟩
theorem ss_pas {pos : Pos} : PS X (.Pass pos) (trS Γ rd X.K .pas) := PS.mono ps_pass fun E σ H hlen h => nx_of h
theorem ss_doc {x j} {pos pos' : Pos} : PS X (.Expr (.Constant (.str x) j pos) pos') (trS Γ rd X.K .pas) := PS.mono ps_doc fun E σ H hlen h => nx_of h
theorem ss_brk {pos : Pos} : PS X (.Break pos) (trS Γ rd X.K .brk) := PS.mono ps_break fun E σ H hlen h => by
  obtain ⟨pn, He, H0e, H0, env, fps, D, ok, S, L, h⟩ := h
  unfold wpS at h
  exact L.bk _ _ _ _ _ S h
theorem ss_cnt {pos : Pos} : PS X (.Continue pos) (trS Γ rd X.K .cnt) := PS.mono ps_continue fun E σ H hlen h => by
  obtain ⟨pn, He, H0e, H0, env, fps, D, ok, S, L, h⟩ := h
  unfold wpS at h
  exact L.ct _ _ _ _ _ S h
theorem ss_ret (M : Γ.Mono) {te : TE} {e : Expr} {pos : Pos} (he : PE X e (trE Γ rd X.K te)) : PS X (.Return (some e) pos) (trS Γ rd X.K (.ret te)) := by
  refine PS.mono (ps_ret he) fun E σ H hlen h => ?_
  obtain ⟨pn, He, H0e, H0, env, fps, D, ok, S, L, h⟩ := h
  unfold wpS at h
  exact trE_of M S h fun t o H1 H' v x r q => L.rt _ _ _ _ _ (S.mono x).ext (by
    cases o with
    | bor d => exact r
    | fr d => exact r.base S.heH) q
theorem ss_retN {pos : Pos} : PS X (.Return none pos) (trS Γ rd X.K .retN) := by
  refine PS.mono ps_retN fun E σ H hlen h => ?_
  obtain ⟨pn, He, H0e, H0, env, fps, D, ok, S, L, h⟩ := h
  unfold wpS at h
  exact L.rt _ _ _ _ _ S.ext VR.ofN h
theorem ss_retV (G : Good c n C X N sc) {i : Nat} {x : Str} {pos p : Pos} (hi : N[i]? = some x) (hv : sc.names.lookup x = some .local ∨ sc.names.lookup x = some .cell ∨ sc.names.lookup x = some .free)
    (hd : (x == ("__debug__" : Str)) = false) (hc : (x == ("__classdict__" : Str)) = false) : PS X (.Return (some (.Name x p)) pos) (trS Γ rd X.K (.retV i)) := by
  refine PS.mono (ps_ret (pe_var (i := i) (by rw [G.hN]; exact hi) (G.vis hv) hd hc)) fun E σ H hlen h => ?_
  obtain ⟨pn, He, H0e, H0, env, fps, D, ok, S, L, h⟩ := h
  unfold wpS wpRetV at h
  split at h
  · rename_i d t e
    have q := S.slot i
    rw [e] at q
    obtain ⟨v, e1, r⟩ := q
    exact ⟨v, e1, L.rt _ _ (.fr d) t _ S.ext ⟨_, r, S.nd i, fun a ha => ⟨(S.out i a ha).2, (S.out i a ha).1⟩⟩ h⟩
  · exact h.elim
theorem ss_ite (M : Γ.Mono) {te : TE} {ta tb : TSs} {e : Expr} {a b : List Stmt} {pos : Pos} (he : L2.PT X e (trT Γ rd X.K te)) (ha : PSs X a (trSs Γ rd X.K ta)) (hb : PSs X b (trSs Γ rd X.K tb)) : PS X (.If e a b pos) (trS Γ rd X.K (.ite te ta tb)) := by
  refine PS.mono (ps_if he ha hb) fun E σ H hlen h => ?_
  obtain ⟨pn, He, H0e, H0, env, fps, D, ok, S, L, h⟩ := h
  unfold wpS at h
  refine trT_of M S h fun b H1 H' x q => ?_
  cases b with
  | true => exact ⟨pn, He, H0e, H1, env, fps, D, okP_l ok, S.mono x, L, q⟩
  | false => exact ⟨pn, He, H0e, H1, env, fps, D, okP_r ok, S.mono x, L, q⟩
/-! ### loops -/
theorem ss_whl (M : Γ.Mono) {te : TE} {tb : TSs} {e : Expr} {b : List Stmt} {pos : Pos} (hp : PassesOwn (model X.prog X.w) X.A X.env X.xe) (he : L2.PT X e (trT Γ rd X.K te)) (hb : PSs X b (trSs Γ rd X.K tb)) : PS X (.While e b [] pos) (trS Γ rd X.K (.whl te tb)) := by
  refine PS.mono (ps_while hp he hb) fun E σ H hlen h => ?_
  obtain ⟨pn, He, H0e, H0, env, fps, D, ok, S, L, h⟩ := h
  unfold wpS at h
  obtain ⟨m, h⟩ := h
  let W : Nat → L2.St → Hp → Prop := fun m σ H => ∃ H0 env fps, StR X.K pn He H0e H0 H σ env fps ∧ wpWh (fun env Q => wpE Γ rd te env fun x _ => tru x Q) (fun env k => wpSs Γ rd tb env { nx := k, rt := D.rt, bk := D.nx, ct := k }) m env D.nx
  refine ⟨W, ⟨m, H0, env, fps, S, h⟩, ?_⟩
  rintro m σ H ⟨H0, env, fps, S, h⟩
  cases m with
  | zero => exact h.elim
  | succ m =>
    refine trT_of M S h fun b H1 H' x q => ?_
    cases b with
    | false => exact L.nx _ _ _ _ _ (S.mono x) q
    | true => exact ⟨W m, fun σ' H' w => ⟨m, Nat.lt_succ_self m, w⟩, pn, He, H0e, H1, env, fps, { nx := fun env' => wpWh (fun env Q => wpE Γ rd te env fun x _ => tru x Q) (fun env k => wpSs Γ rd tb env { nx := k, rt := D.rt, bk := D.nx, ct := k }) m env' D.nx, rt := D.rt, bk := D.nx, ct := fun env' => wpWh (fun env Q => wpE Γ rd te env fun x _ => tru x Q) (fun env k => wpSs Γ rd tb env { nx := k, rt := D.rt, bk := D.nx, ct := k }) m env' D.nx }, ok, S.mono x, ⟨fun H0 H σ env fps S q => ⟨H0, env, fps, S, q⟩, L.rt, L.nx, fun H0 H σ env fps S q => ⟨H0, env, fps, S, q⟩⟩, q⟩
theorem wpIS_ok (M : Γ.Mono) : ∀ {it : It} {env : Env} {Q : List (List (Nat × Sl)) → Prop}, wpIS Γ rd it env Q → wpIS Γ rd it env fun xs => itOk it xs ∧ Q xs
  | .seq i e, env, Q, h => by
    unfold wpIS at h ⊢
    refine wpE_mono M e env _ _ (fun x o q => ⟨q.1, seq_mono (fun ts o' q => ⟨fun y hy p hp => ?_, q⟩) q.2⟩) h
    obtain ⟨t, _, e⟩ := List.mem_map.mp hy
    subst e
    rw [List.mem_singleton.mp hp]
    exact List.mem_cons_self
  | .rng i es, env, Q, h => by
    unfold wpIS at h ⊢
    refine wpEs_mono M es env _ _ (fun l => rng_mono fun a b q => ⟨fun y hy p hp => ?_, q⟩) h
    obtain ⟨t, _, e⟩ := List.mem_map.mp hy
    subst e
    rw [List.mem_singleton.mp hp]
    exact List.mem_cons_self
  | .zip i j a b, env, Q, h => by
    unfold wpIS at h ⊢
    refine wpE_mono M a env _ _ (fun x o => wpE_mono M b env _ _ fun y o' q => ⟨q.1, q.2.1, seq_mono (fun ts p => seq_mono fun us p' q => ⟨fun y hy p hp => ?_, q⟩) q.2.2⟩) h
    obtain ⟨k, hk⟩ := List.getElem?_of_mem hy
    obtain ⟨t, u, _, _, e⟩ := zipS_get hk
    subst e
    rcases List.mem_cons.mp hp with hp | hp
    · rw [hp]
      exact List.mem_cons_self
    · rw [List.mem_singleton.mp hp]
      exact List.mem_cons_of_mem _ List.mem_cons_self
/-- the frozen part as it stands taken for the entry's -/
theorem StR.base (S : StR K pn He H0e H0 H σ env fps) (x : Ext H0e He H0' H') (y : Same H0' H0) : StR K pn He H0' H0 H σ env fps :=
  ⟨⟨S.ext.s, y, S.ext.le, fun a o e => (S.ext.nw a o e).trans (x.nw a o e).symm⟩, S.len, S.slot, S.nd, S.dj, S.out, S.pin⟩
theorem Ext.back (x : Ext H0e He H0' H') (y : Ext H0' He H0 H) : Ext H0e He H0 H := ⟨y.s, x.s0.trans y.s0, y.le, fun a o e => (y.nw a o e).trans (x.nw a o e)⟩
theorem StR.back (S : StR K pn He H0' H0 H σ env fps) (x : Ext H0e He H0' H') : StR K pn He H0e H0 H σ env fps :=
  ⟨Ext.back x S.ext, S.len, S.slot, S.nd, S.dj, S.out, S.pin⟩
theorem put_out : ∀ {env : Env} {i : Nat} {s : Sl}, ¬ i < env.length → Env.put env i s = env
  | [], _, _, _ => rfl
  | a :: r, 0, s, h => by simp at h
  | a :: r, i + 1, s, h => by
    show a :: Env.put r i s = a :: r
    rw [put_out (env := r) (by simpa using h)]
theorem StR.out_ (S : StR K pn He H0e H0 H σ env fps) {i : Nat} {s : Sl} (hi : ¬ i < σ.length) : env.store i s = env := by
  unfold Env.store
  rw [put_out (by rw [List.length_map, S.len]; exact hi)]
  refine env_ext (by simp) fun j => ?_
  rw [get_map rfl]
  have q := S.slot j
  cases g : env.get j with
  | al r p =>
    rw [g] at q
    obtain ⟨_, _, _, d, t, _, _, e3, _⟩ := q
    have : r < env.length := get_lt (by rw [e3]; exact Sl.noConfusion)
    show (if r = i then Sl.em else Sl.al r p) = _
    rw [if_neg (by rw [S.len] at this; omega)]
  | _ => rfl
theorem StR.putX (S : StR K pn He H0e H0 H σ env fps) {i : Nat} {v : V} {s : Sl} (hs : SlV K He H0 H s v) (hpn : ∀ q ∈ pn, q.1 ≠ i) : ∃ fps', StR K pn He H0e H0 H (σ.set i (some v)) (env.store i s) fps' := by
  by_cases hi : i < σ.length
  · exact ⟨_, S.putV hi hs hpn⟩
  · rw [S.out_ hi, List.set_eq_of_length_le (by omega)]
    exact ⟨fps, S⟩
theorem StR.putsX : ∀ {l : List (Nat × Sl)} {vs : List V} {σ : L2.St} {env : Env} {fps : Nat → List Addr}, StR K pn He H0e H0 H σ env fps → (∀ p ∈ l, ∀ q ∈ pn, q.1 ≠ p.1) → SlVs K He H0 H l vs → ∃ fps', StR K pn He H0e H0 H (sets σ l vs) (env.puts l) fps'
  | [], vs, σ, env, fps, S, _, h => ⟨fps, by
    have e : vs = [] := h
    subst e
    exact S⟩
  | (i, s) :: r, vs, σ, env, fps, S, hp, h => by
    obtain ⟨v, w, e, a, b⟩ := h
    subst e
    obtain ⟨fps', S'⟩ := S.putX a (hp _ List.mem_cons_self)
    exact S'.putsX (fun p hm => hp p (List.mem_cons_of_mem _ hm)) b
theorem ss_for (M : Γ.Mono) (G : Good c n C X N sc) {it : It} {tb : TSs} {tg e : Expr} {b : List Stmt} {pos : Pos} (hp : PassesOwn (model X.prog X.w) X.A X.env X.xe) (hi : PI X tg e (trIS Γ rd X.K it)) (hg : PG X tg (gOf X.K it)) (hb : PSs X b (trSs Γ rd X.K tb))
    (hs : ∀ x, foldedSetIterable e X.env x = pure x) : PS X (.For tg e b [] pos) (trS Γ rd X.K (.for_ it tb)) := by
  refine PS.mono (ps_for hp G.calm hi hg hb hs) fun E σ H hlen h => ?_
  obtain ⟨pn, He, H0e, H0, env, fps, D, ok, S, L, h⟩ := h
  unfold wpS at h
  refine ⟨pn, He, H0e, H0, env, fps, S, wpIS_mono M it env _ _ (fun xs q H1 H' J ex Wk => ?_) (wpIS_ok M h)⟩
  obtain ⟨iok, q⟩ := q
  have xb := (S.mono ex).ext
  have S1 := (S.mono ex).base xb (Same.refl _)
  let F : List (Nat × Sl) → Env → (Env → Prop) → Prop := fun x env k => wpSs Γ rd tb (env.puts x) { nx := k, rt := D.rt, bk := D.nx, ct := k }
  let W : Nat → Nat → L2.St → Hp → Prop := fun i m σ Hx => m = xs.length - i ∧ i ≤ xs.length ∧ ∃ H0x env fps, StR X.K pn He H1 H0x Hx σ env fps ∧ forL F (xs.drop i) env D.nx
  refine ⟨W, ⟨xs.length, by simp, Nat.zero_le _, H1, env, fps, S1, by simpa using q⟩, ?_⟩
  rintro i m σ Hx ⟨rfl, hi, H0x, env, fps, S2, q⟩
  have sb : Same H1 Hx := S2.ext.s0.trans S2.ext.le
  by_cases hlt : i < xs.length
  · rw [drop_cons hlt] at q
    have q : F xs[i] env fun env' => forL F (xs.drop (i + 1)) env' D.nx := q
    refine .inr ⟨Wk.goes i Hx hlt sb, fun σ Hy => ∃ H0y env fps, StR X.K pn He H1 H0y Hy σ env fps ∧ forL F (xs.drop (i + 1)) env D.nx, fun σ Hy ⟨H0y, env, fps, S, q⟩ => ⟨xs.length - (i + 1), by omega, rfl, hlt, H0y, env, fps, S, q⟩, fun x Hx' hy => ?_⟩
    obtain ⟨ch, vs', sv, run⟩ := Wk.yields i _ Hx x Hx' (List.getElem?_eq_getElem hlt) sb hy
    have ex2 : Ext H0x Hx H0x Hx' := Ext.turn (p := 0) (ob := .own 0) S2.ext.le ch
    have hm := List.getElem_mem hlt
    obtain ⟨fp2, S3⟩ := (S2.mono ex2).putsX (l := xs[i]) (vs := vs') (fun p hp => okP_ne (okP_l ok) (iok _ hm p hp)) (sv.ext S2.ext.s0 (S2.ext.s0.trans (S2.mono ex2).ext.le))
    exact run _ _ ⟨pn, He, H1, H0x, _, fp2, { nx := fun env' => forL F (xs.drop (i + 1)) env' D.nx, rt := D.rt, bk := D.nx, ct := fun env' => forL F (xs.drop (i + 1)) env' D.nx }, okP_r ok, S3, ⟨fun H0 H σ env fps S q => ⟨H0, env, fps, S, q⟩, fun H0 H o t v x r q => L.rt H0 H o t v (Ext.back xb x) r q, fun H0 H σ env fps S q => L.nx _ _ _ _ _ (S.back xb) q, fun H0 H σ env fps S q => ⟨H0, env, fps, S, q⟩⟩, q⟩
  · have e : i = xs.length := by omega
    subst e
    rw [List.drop_length] at q
    exact .inl ⟨Wk.stops Hx sb, L.nx _ _ _ _ _ (S2.back xb) q⟩
/-- over a list of one's own -/
theorem ss_forO (M : Γ.Mono) (G : Good c n C X N sc) {i j : Nat} {x y : Str} {tb : TSs} {b : List Stmt} {p p2 pos : Pos} (hp : PassesOwn (model X.prog X.w) X.A X.env X.xe) (hi : N[i]? = some x) (hx : sc.names.lookup x = some .local ∨ sc.names.lookup x = some .cell)
    (hj : N[j]? = some y) (hv : sc.names.lookup y = some .local ∨ sc.names.lookup y = some .cell ∨ sc.names.lookup y = some .free) (hd : (y == ("__debug__" : Str)) = false) (hc : (y == ("__classdict__" : Str)) = false) (hb : PSs X b (trSs Γ rd X.K tb)) (hfr : j ∉ i :: tb.wr) :
    PS X (.For (.Name x p) (.Name y p2) b [] pos) (trS Γ rd X.K (.forO i j tb)) := by
  refine PS.mono (ps_for hp G.calm (pi_list (pe_var (i := j) (by rw [G.hN]; exact hj) (G.vis hv) hd hc)) (pg_name (i := i) (by rw [G.hN]; exact G.nd) (by rw [G.hN]; exact hi) (G.loc hx).1 (G.loc hx).2) hb) fun E σ H hlen h => ?_
  obtain ⟨pn, He, H0e, H0, env, fps, D, ok, S, L, h⟩ := h
  unfold wpS at h
  split at h
  · rename_i d xs e
    have qs := S.slot j
    rw [e] at qs
    obtain ⟨vj, e1, ow⟩ := qs
    -- the list as it stands
    have lst : ∀ {d xs H0 H f}, Own X.K H0 H d (.lst xs) vj f → Same H0 H → ∃ a vs, vj = .ref a ∧ H a = some (.lst vs) ∧ vs.length = xs.length := fun {d xs H0 H f} o le => by
      have := own_here le o
      unfold Rep at this
      obtain ⟨a, vs, q1, q2, q3⟩ := this
      exact ⟨a, vs, q1, q2, reps_len q3⟩
    obtain ⟨a, vs, e2, e3, e4⟩ := lst ow S.le
    subst e2
    refine ⟨.ref a, e1, a, rfl, ⟨vs, .inl (.inl e3)⟩, ?_⟩
    let pn' : List (Nat × V) := (j, .ref a) :: pn
    have up : ∀ {H0 H σ env fps}, StR X.K pn He H0e H0 H σ env fps → σ[j]? = some (some (.ref a)) → StR X.K pn' He H0e H0 H σ env fps := fun S e => ⟨S.ext, S.len, S.slot, S.nd, S.dj, S.out, fun q hq => by
      rcases List.mem_cons.mp hq with z | z
      · rw [z]; exact e
      · exact S.pin q z⟩
    have dn : ∀ {H0 H σ env fps}, StR X.K pn' He H0e H0 H σ env fps → StR X.K pn He H0e H0 H σ env fps := fun S => ⟨S.ext, S.len, S.slot, S.nd, S.dj, S.out, fun q hq => S.pin q (List.mem_cons_of_mem _ hq)⟩
    let F : Env → (Env → Prop) → Prop := fun env k => wpSs Γ rd tb env { nx := k, rt := D.rt, bk := D.nx, ct := k }
    let W : Nat → Nat → L2.St → Hp → Prop := fun k m σ Hx => m = xs.length - k ∧ k ≤ xs.length ∧ ∃ H0x env fps, StR X.K pn' He H0e H0x Hx σ env fps ∧ forO i j xs.length F (xs.length - k) env D.nx
    refine ⟨W, ⟨xs.length, by simp, Nat.zero_le _, H0, env, fps, up S e1, by simpa using h⟩, ?_⟩
    rintro k m σ Hx ⟨rfl, hk, H0x, env, fps, S2, q⟩
    have pj : σ[j]? = some (some (.ref a)) := S2.pin _ List.mem_cons_self
    by_cases hlt : k < xs.length
    · have em : xs.length - k = (xs.length - (k + 1)) + 1 := by omega
      have en : xs.length - ((xs.length - (k + 1)) + 1) = k := by omega
      rw [em] at q
      unfold forO at q
      split at q
      · rename_i d2 ys e5
        obtain ⟨hl, q⟩ := q
        have qs := S2.slot j
        rw [e5] at qs
        obtain ⟨vj2, e6, ow2⟩ := qs
        rw [pj] at e6
        cases e6
        obtain ⟨a2, ws, e7, e8, e9⟩ := lst ow2 S2.le
        cases e7
        have hk2 : k < ws.length := by omega
        rw [en] at q
        have ne : j ≠ i := fun z => hfr (z ▸ List.mem_cons_self)
        have hp2 : ∀ q ∈ pn', q.1 ≠ i := fun q hq => by
          rcases List.mem_cons.mp hq with z | z
          · rw [z]; exact ne
          · exact okP_ne ok List.mem_cons_self q z
        refine .inr ⟨⟨ws, ws[k], .inl (.inl e8), List.getElem?_eq_getElem hk2⟩, fun σ Hy => ∃ H0y env fps, StR X.K pn' He H0e H0y Hy σ env fps ∧ forO i j xs.length F (xs.length - (k + 1)) env D.nx, fun σ Hy ⟨H0y, env, fps, S, q⟩ => ⟨xs.length - (k + 1), by omega, rfl, hlt, H0y, env, fps, S, q⟩, fun x Hx' hy => ?_⟩
        obtain ⟨e10, hy⟩ := hy
        subst e10
        have hy := hy ws (.inl (.inl e8))
        have fin : ∀ {env'} {fps'}, StR X.K pn' He H0e H0x Hx' (σ.set i (some x)) env' fps' → F env' (fun env' => forO i j xs.length F (xs.length - (k + 1)) env' D.nx) → gName i x σ Hx' fun σ2 H2 => trSs Γ rd X.K tb { E with nx := fun σ Hy => ∃ H0y env fps, StR X.K pn' He H0e H0y Hy σ env fps ∧ forO i j xs.length F (xs.length - (k + 1)) env D.nx, ct := fun σ Hy => ∃ H0y env fps, StR X.K pn' He H0e H0y Hy σ env fps ∧ forO i j xs.length F (xs.length - (k + 1)) env D.nx, bk := E.nx } σ2 H2 := fun {env' fps'} S3 q =>
          ⟨pn', He, H0e, H0x, env', fps', { nx := fun env' => forO i j xs.length F (xs.length - (k + 1)) env' D.nx, rt := D.rt, bk := D.nx, ct := fun env' => forO i j xs.length F (xs.length - (k + 1)) env' D.nx }, fun q hq m => by
            rcases List.mem_cons.mp hq with z | z
            · rw [z] at m; exact hfr (List.mem_cons_of_mem _ m)
            · exact ok q z (List.mem_cons_of_mem _ m), S3, ⟨fun H0 H σ env fps S q => ⟨H0, env, fps, S, q⟩, L.rt, fun H0 H σ env fps S q => L.nx _ _ _ _ _ (dn S) q, fun H0 H σ env fps S q => ⟨H0, env, fps, S, q⟩⟩, q⟩
        have small : d2 < 2 → ∀ t, ys[k]? = some t → Rep X.K H0x t x := fun hd t ht => by
          cases d2 with
          | zero =>
            have := ow2.2
            unfold Rep at this
            obtain ⟨a3, us, w1, w2, w3⟩ := this
            cases w1
            have := S2.le _ _ w2
            rw [e8] at this
            cases this
            obtain ⟨v, g1, g2⟩ := reps_get w3 ht
            rw [hy] at g1
            cases g1
            exact g2
          | succ d2 =>
            have : d2 = 0 := by omega
            subst this
            obtain ⟨a3, us, g, w1, w2, w3, o⟩ := ow2
            cases w1
            rw [e8] at w2
            cases w2
            obtain ⟨v, f, g1, g2, _⟩ := o.get ht
            rw [hy] at g1
            cases g1
            exact g2.2
        split at q
        · rename_i d3
          have hki : i < σ.length ∨ ¬ i < σ.length := Classical.em _
          rcases hki with hki | hki
          · refine fin (S2.put (w := some x) (s := .al j [k]) (f := []) hki ⟨rfl, x, .ref a, d3 + 2, .lst ys, List.getElem?_set_self hki, (List.getElem?_set_ne (Ne.symm ne)).trans pj, ?_, ⟨a, ws, x, rfl, e8, hy, rfl⟩, by simp, ?_⟩ .nil (fun j a _ ha => by cases ha) (fun a ha => by cases ha) (fun q hq e => absurd e (hp2 q hq))) q
            · rw [get_store (by rw [S2.len]; exact hki), if_neg (Ne.symm ne), e5]
              rfl
            · have := at_one (p := [k]) (q := []) (t := .lst ys) (ts := ys) (m := k) (by simp [T.at]) (by omega)
              rw [show [k] = [] ++ [k] from rfl, this, List.getElem?_eq_getElem (by omega)]
              rfl
          · have e1 := S2.out_ (s := .al j [k]) hki
            have e2 : σ.set i (some x) = σ := List.set_eq_of_length_le (by omega)
            rw [e1] at q
            refine fin (fps' := fps) ?_ q
            rw [e2]
            exact S2
        · rename_i d3 hd3
          obtain ⟨t, ht, q⟩ := q
          have hd : d2 < 2 := by
            rcases d2 with _ | _ | d2
            · omega
            · omega
            · exact absurd rfl (hd3 d2)
          obtain ⟨fps', S3⟩ := S2.putX (s := .sh t) (small hd t ht) hp2
          exact fin S3 q
      · exact q.elim
    · have e : k = xs.length := by omega
      subst e
      rw [Nat.sub_self] at q
      unfold forO at q
      split at q
      · rename_i d2 ys e5
        obtain ⟨hl, q⟩ := q
        have qs := S2.slot j
        rw [e5] at qs
        obtain ⟨vj2, e6, ow2⟩ := qs
        rw [pj] at e6
        cases e6
        obtain ⟨a2, ws, e7, e8, e9⟩ := lst ow2 S2.le
        cases e7
        exact .inl ⟨⟨ws, .inl (.inl e8), by omega⟩, L.nx _ _ _ _ _ (dn S2) q⟩
      · exact q.elim
  · exact h.elim
/-! ### a list within one's own is given up -/
theorem StR.less {He' : Hp} (S : StR K pn He' H0e H0 H σ env fps) (e : Same He He') : StR K pn He H0e H0 H σ env fps := by
  refine ⟨⟨e.trans S.ext.s, S.ext.s0, S.ext.le, fun a o h => S.ext.nw a o (e a o h)⟩, S.len, fun i => ?_, S.nd, S.dj, fun i a ha => ⟨(S.out i a ha).1, e.free (S.out i a ha).2⟩, S.pin⟩
  have q := S.slot i
  cases g : env.get i with
  | br d t =>
    rw [g] at q
    obtain ⟨z, v, f, b, c, h⟩ := q
    exact ⟨z, v, f, b, c, fun a ha => e.free (h a ha)⟩
  | em => rw [g] at q; exact q
  | sh t => rw [g] at q; exact q
  | ow d t => rw [g] at q; exact q
  | al r p => rw [g] at q; exact q
  | slf C ns ts => rw [g] at q; exact q
theorem StR.more {He' : Hp} (S : StR K pn He H0e H0 H σ env fps) (e2 : Same He' H) (hn : ∀ a u, He' a = some u → He a = some u ∨ (H0 a = none ∧ ∀ i, a ∉ fps i)) (nb : ∀ i, (env.get i).isBr = false) : StR K pn He' H0e H0 H σ env fps := by
  refine ⟨⟨e2, S.ext.s0, S.ext.le, fun a o h => ?_⟩, S.len, fun i => ?_, S.nd, S.dj, fun i a ha => ⟨(S.out i a ha).1, ?_⟩, S.pin⟩
  · rcases hn a o h with z | ⟨z, _⟩
    · exact S.ext.nw a o z
    · rw [z, S.ext.s0.free z]
  · have q := S.slot i
    have b := nb i
    cases g : env.get i with
    | br d t => rw [g] at b; cases b
    | em => rw [g] at q; exact q
    | sh t => rw [g] at q; exact q
    | ow d t => rw [g] at q; exact q
    | al r p => rw [g] at q; exact q
    | slf C ns ts => rw [g] at q; exact q
  · cases z : He' a with
    | none => rfl
    | some u =>
      rcases hn a u z with y | ⟨_, y⟩
      · rw [(S.out i a ha).2] at y; cases y
      · exact absurd ha (y i)
theorem VR.less {He' : Hp} (e : Same He He') (r : VR K He' He' H0' H' o t v) : VR K He He H0' H' o t v := by
  cases o with
  | bor d => obtain ⟨f, a, b⟩ := r; exact ⟨f, a, fun x hx => e.free (b x hx)⟩
  | fr d => obtain ⟨f, a, b, c⟩ := r; exact ⟨f, a, b, fun x hx => ⟨e.free (c x hx).1, (c x hx).2⟩⟩
theorem all_get {env : Env} (h : env.all (fun s => !s.isBr) = true) (i : Nat) : (env.get i).isBr = false := by
  induction env generalizing i with
  | nil => cases i <;> rfl
  | cons s l ih =>
    rw [List.all_cons, Bool.and_eq_true] at h
    cases i with
    | zero =>
      show s.isBr = false
      simpa using h.1
    | succ i => exact ih h.2 i
theorem ss_forD (M : Γ.Mono) (G : Good c n C X N sc) {i j : Nat} {x : Str} {tb : TSs} {es : TEs} {ex : Expr} {b : List Stmt} {p pos : Pos} (hp : PassesOwn (model X.prog X.w) X.A X.env X.xe) (hi : N[i]? = some x) (hx : sc.names.lookup x = some .local ∨ sc.names.lookup x = some .cell)
    (hl : PE X ex (trL Γ rd X.K j es)) (hb : PSs X b (trSs Γ rd X.K tb)) (hs : ∀ x, foldedSetIterable ex X.env x = pure x) :
    PS X (.For (.Name x p) ex b [] pos) (trS Γ rd X.K (.forD i j es tb)) := by
  refine PS.mono (ps_for hp G.calm (pi_list hl) (pg_name (i := i) (by rw [G.hN]; exact G.nd) (by rw [G.hN]; exact hi) (G.loc hx).1 (G.loc hx).2) hb hs) fun E σ H hlen h => ?_
  obtain ⟨pn, He, H0e, H0, env, fps, D, ok, S, L, h⟩ := h
  unfold wpS at h
  refine trL_of M S h fun r d t p H1 H' v vr xt e1 e2 e3 e4 e5 q => ?_
  obtain ⟨ts, h1, h2, nb, q⟩ := q
  have S1 := S.mono xt
  obtain ⟨a, vs0, w1, w2, w3⟩ := S1.at e1 e2 e3 (by omega) h1
  subst w1
  obtain ⟨vs, f, g1, g2, g3, g4, g5, _⟩ := S1.mutate e2 h1 (by omega) e1 e3
  have lv : vs.length = ts.length := g2.len
  refine ⟨a, rfl, ⟨vs, .inl (.inl g1)⟩, ?_⟩
  have rl : r < σ.length := by rw [← S1.len]; exact get_lt (by rw [e2]; exact Sl.noConfusion)
  let d' := d - p.length - 1
  let F : Env → (Env → Prop) → Prop := fun env k => wpSs Γ rd tb env { nx := k, rt := D.rt, bk := D.nx, ct := k }
  let W : Nat → Nat → L2.St → Hp → Prop := fun k m σ Hx => m = ts.length - k ∧ k ≤ ts.length ∧ ∃ Hk H0x env fps g, StR X.K pn Hk H0e H0x Hx σ env fps ∧ Same He Hk ∧ (Hk a = some (.lst vs) ∧ He a = none) ∧ Owns (Own X.K H0x Hx d') (ts.drop k) (vs.drop k) g ∧ g.Nodup ∧
    (∀ b ∈ g, b ≠ a ∧ He b = none ∧ H0x b = none ∧ ∃ u, Hk b = some u) ∧ forD i d' F (ts.drop k) env D.nx
  have fr : ∀ b ∈ a :: f, b ∈ fps r := fun b hb => by
    rcases List.mem_cons.mp hb with z | z
    · rw [z]; exact g5
    · exact (g4 b z).2
  refine ⟨W, ⟨ts.length, by simp, Nat.zero_le _, adj He H' (a :: f), H1, env.store r .em, fpUpd fps r [], f, ?_, same_adj S1.ext.s, ⟨by rw [adj_in List.mem_cons_self]; exact g1, (S1.out r a g5).2⟩, g2, g3, fun b hb => ?_, q⟩, ?_⟩
  · refine (S1.re (s := .em) rl rfl).more (adj_same S1.ext.s) (fun b u hb => ?_) fun k => ?_
    · by_cases m : b ∈ a :: f
      · refine .inr ⟨(S1.out r b (fr b m)).1, fun k hk => ?_⟩
        unfold fpUpd at hk
        by_cases e : r = k
        · rw [if_pos e] at hk; cases hk
        · rw [if_neg e] at hk; exact S1.dj r k b e (fr b m) hk
      · rw [adj_out m] at hb; exact .inl hb
    · rw [get_store (by rw [S1.len]; exact rl)]
      by_cases e : r = k
      · rw [if_pos e]; rfl
      · rw [if_neg e]
        have := all_get nb k
        cases z : env.get k with
        | br d t => rw [z] at this; cases this
        | al r' p' =>
          show (if r' = r then Sl.em else Sl.al r' p').isBr = false
          split <;> rfl
        | em => rfl
        | sh t => rfl
        | ow d t => rfl
        | slf C ns ts => rfl
  · have m := fr b (List.mem_cons_of_mem _ hb)
    obtain ⟨u, eu⟩ := S1.live m
    exact ⟨(g4 b hb).1, (S1.out r b m).2, (S1.out r b m).1, u, by rw [adj_in (List.mem_cons_of_mem _ hb)]; exact eu⟩
  rintro k m σ Hx ⟨rfl, hk, Hk, H0x, env, fps, g, S2, s1, ⟨ha, hae⟩, o, ng, fg, q⟩
  have hxa : Hx a = some (.lst vs) := S2.ext.s _ _ ha
  by_cases hlt : k < ts.length
  · have hlv : k < vs.length := by omega
    rw [drop_cons hlt] at q o
    rw [drop_cons hlv] at o
    obtain ⟨v, r', f1, f2, y1, y2, y3, y4⟩ := o
    cases y1
    have q : F (env.store i (.ow d' ts[k])) fun env' => forD i d' F (ts.drop (k + 1)) env' D.nx := q
    subst y2
    have ng2 := List.nodup_append.mp ng
    refine .inr ⟨⟨vs, vs[k], .inl (.inl hxa), List.getElem?_eq_getElem hlv⟩, fun σ Hy => ∃ Hk H0x env fps g, StR X.K pn Hk H0e H0x Hy σ env fps ∧ Same He Hk ∧ (Hk a = some (.lst vs) ∧ He a = none) ∧ Owns (Own X.K H0x Hy d') (ts.drop (k + 1)) (vs.drop (k + 1)) g ∧ g.Nodup ∧
      (∀ b ∈ g, b ≠ a ∧ He b = none ∧ H0x b = none ∧ ∃ u, Hk b = some u) ∧ forD i d' F (ts.drop (k + 1)) env D.nx, fun σ Hy h => ⟨ts.length - (k + 1), by omega, rfl, hlt, h⟩, fun x Hx' hy => ?_⟩
    obtain ⟨e10, hy⟩ := hy
    subst e10
    have hy := hy vs (.inl (.inl hxa))
    rw [List.getElem?_eq_getElem hlv] at hy
    cases hy
    let H2 : Hp := fun b => if b ∈ f1 then none else Hk b
    have hs2 : Same H2 Hk := fun b u h => by
      by_cases m : b ∈ f1
      · have : (none : Option HO) = some u := by rw [← h]; exact (if_pos m).symm
        cases this
      · rw [← h]; exact (if_neg m).symm
    have s2 : Same He H2 := fun b u h => by
      have nm : b ∉ f1 := fun m => by
        rw [(fg b (List.mem_append_left _ m)).2.1] at h
        cases h
      show (if b ∈ f1 then none else Hk b) = some u
      rw [if_neg nm]
      exact s1 b u h
    have na : a ∉ f1 := fun m => (fg a (List.mem_append_left _ m)).1 rfl
    have h2a : H2 a = some (.lst vs) := by
      show (if a ∈ f1 then none else Hk a) = _
      rw [if_neg na]
      exact ha
    have nf : ∀ b ∈ f2, b ∉ f1 := fun b hb hm => ng2.2.2 b hm b hb rfl
    have S4 : StR X.K pn H2 H0e H0x Hx' σ env fps := S2.less hs2
    have okp := okP_ne ok List.mem_cons_self
    have S5 : ∃ fps', StR X.K pn H2 H0e H0x Hx' (σ.set i (some vs[k])) (env.store i (.ow d' ts[k])) fps' := by
      by_cases hki : i < σ.length
      · refine ⟨_, S4.put (w := some vs[k]) (s := .ow d' ts[k]) (f := f1) hki ⟨vs[k], List.getElem?_set_self hki, y3⟩ ng2.1 (fun j b _ hb hj => ?_) (fun b hb => ⟨(fg b (List.mem_append_left _ hb)).2.2.1, if_pos hb⟩) (fun q hq e => absurd e (okp q hq))⟩
        obtain ⟨u, eu⟩ := (fg b (List.mem_append_left _ hb)).2.2.2
        rw [(S2.out j b hj).2] at eu
        cases eu
      · rw [S4.out_ hki, List.set_eq_of_length_le (by omega)]
        exact ⟨fps, S4⟩
    obtain ⟨fps', S5⟩ := S5
    have S6 := S5.base S5.ext (Same.refl _)
    have nxt : ∀ H0y Hy σ env fps, StR X.K pn H2 H0x H0y Hy σ env fps → forD i d' F (ts.drop (k + 1)) env D.nx → ∃ Hk H0x env fps g, StR X.K pn Hk H0e H0x Hy σ env fps ∧ Same He Hk ∧ (Hk a = some (.lst vs) ∧ He a = none) ∧ Owns (Own X.K H0x Hy d') (ts.drop (k + 1)) (vs.drop (k + 1)) g ∧ g.Nodup ∧
      (∀ b ∈ g, b ≠ a ∧ He b = none ∧ H0x b = none ∧ ∃ u, Hk b = some u) ∧ forD i d' F (ts.drop (k + 1)) env D.nx := fun H0y Hy σ env fps S q => by
      have key : ∀ b ∈ f2, ∃ u, H2 b = some u ∧ Hx' b = some u := fun b hb => by
        obtain ⟨u, eu⟩ := (fg b (List.mem_append_right _ hb)).2.2.2
        exact ⟨u, (if_neg (nf b hb)).trans eu, S2.ext.s _ _ eu⟩
      refine ⟨H2, H0y, env, fps, f2, S.back S5.ext, s2, ⟨h2a, hae⟩, y4.imp fun t v f' hf z => own_imp S.ext.s0 _ t v f' (fun b hb => ?_) z, ng2.2.1, fun b hb => ?_, q⟩
      · obtain ⟨u, k1, k2⟩ := key b (hf b hb)
        rw [k2, S.ext.s _ _ k1]
      · obtain ⟨z1, z2, z3, _⟩ := fg b (List.mem_append_right _ hb)
        obtain ⟨u, k1, k2⟩ := key b hb
        exact ⟨z1, z2, (S.ext.nw _ _ k1).trans z3, u, k1⟩
    exact ⟨pn, H2, H0x, H0x, _, fps', { nx := fun env' => forD i d' F (ts.drop (k + 1)) env' D.nx, rt := D.rt, bk := D.nx, ct := fun env' => forD i d' F (ts.drop (k + 1)) env' D.nx }, fun q hq m => ok q hq (List.mem_cons_of_mem _ m), S6,
      ⟨fun H0 H σ env fps S q => nxt _ _ _ _ _ S q, fun H0 H o t v x r q => L.rt H0 H o t v (by
        have y := Ext.back S5.ext x
        exact ⟨s2.trans y.s, y.s0, y.le, fun a o h => y.nw a o (s2 a o h)⟩) (r.less s2) q, fun H0 H σ env fps S q => L.nx _ _ _ _ _ ((S.back S5.ext).less s2) q, fun H0 H σ env fps S q => nxt _ _ _ _ _ S q⟩, q⟩
  · have e : k = ts.length := by omega
    subst e
    rw [List.drop_length] at q
    exact .inl ⟨⟨vs, .inl (.inl hxa), by omega⟩, L.nx _ _ _ _ _ (S2.less s1) q⟩
/-! ### self.f = e -/
theorem putF_zip {f : Str} {v : V} : ∀ {ns : List Str} {vs : List V}, f ∉ ns → ns.length = vs.length → L2.putF f v (ns.zip vs) = (ns ++ [f]).zip (vs ++ [v])
  | [], [], _, _ => rfl
  | [], _ :: _, _, h => by simp at h
  | _ :: _, [], _, h => by simp at h
  | n :: ns, w :: vs, hf, h => by
    show (if n = f then (n, v) :: ns.zip vs else (n, w) :: L2.putF f v (ns.zip vs)) = (n, w) :: (ns ++ [f]).zip (vs ++ [v])
    rw [if_neg (fun (z : n = f) => hf (by rw [z]; exact List.mem_cons_self)), putF_zip (fun z => hf (List.mem_cons_of_mem _ z)) (by simpa using h)]
theorem node_upd {a : Addr} {o : HO} {C dx : Addr} {fs : List (Str × V)} (ha : H a = some (.ins C dx fs)) : ∀ {p : List Nat} {v w : V}, NodeAt H v p w → NodeAt (upd H a o) v p w
  | [], v, w, h => h
  | k :: p, v, w, h => by
    obtain ⟨b, vs, x, e1, e2, e3, e4⟩ := h
    exact ⟨b, vs, x, e1, (upd_ne (fun z => by rw [z, ha] at e2; cases e2)).trans e2, e3, node_upd ha e4⟩
theorem StR.setF (S : StR K pn He H0e H0 H σ env fps) {i : Nat} {C f : Str} {ns : List Str} {ts : List T} (he : env.get i = .slf C ns ts) (hf : f ∉ ns) (hn : NoAttr K (gaC K C) f) (r : Rep K H0 t v) :
    ∃ a dx vs, σ[i]? = some (some (.ref a)) ∧ H a = some (.ins (gaC K C) dx (ns.zip vs)) ∧ ns.length = vs.length ∧ ClsOk K C ns ∧ StR K pn He H0e H0 (upd H a (.ins (gaC K C) dx (L2.putF f v (ns.zip vs)))) σ (Env.put env i (.slf C (ns ++ [f]) (ts ++ [t]))) fps := by
  have q := S.slot i
  rw [he] at q
  obtain ⟨a, dx, vs, e1, e2, e3, e4, e5, e6⟩ := q
  have hi : i < env.length := get_lt (by rw [he]; exact Sl.noConfusion)
  have out := S.out i a (by rw [e1]; exact List.mem_singleton.mpr rfl)
  refine ⟨a, dx, vs, e2, e3, e4, e5, ⟨⟨fun b u h => ?_, S.ext.s0, fun b u h => ?_, S.ext.nw⟩, by rw [len_put]; exact S.len, fun j => ?_, S.nd, S.dj, S.out, S.pin⟩⟩
  · rw [upd_ne (fun z => by rw [z, out.2] at h; cases h)]; exact S.ext.s b u h
  · rw [upd_ne (fun z => by rw [z, out.1] at h; cases h)]; exact S.ext.le b u h
  · rw [get_put _ _ _ _ hi]
    by_cases e : i = j
    · subst e
      rw [if_pos rfl]
      refine ⟨a, dx, vs ++ [v], e1, e2, by rw [upd_same, putF_zip hf e4], by simp [e4], ⟨e5.cls, fun g hg => ?_, e5.ca, e5.cg, e5.ct, e5.cm, e5.kb⟩, reps_append e6 (reps_cons r reps_nil)⟩
      rcases List.mem_append.mp hg with z | z
      · exact e5.no g z
      · rw [List.mem_singleton.mp z]; exact hn
    · rw [if_neg e]
      have q := S.slot j
      have lst : ∀ (o : HO) {d : Nat} {t : T} {v : V} {f : List Addr}, Own K H0 H d t v f → ∀ b ∈ f, upd H a o b = H b := fun o _ _ _ _ ow b hb => by
        obtain ⟨xs, z⟩ := own_in _ _ _ _ ow b hb
        exact upd_ne (fun y => by rw [y, e3] at z; cases z)
      cases g : env.get j with
      | em => rw [g] at q; exact q
      | sh u => rw [g] at q; exact q
      | br d u =>
        rw [g] at q
        obtain ⟨z, w, f, b, c, h⟩ := q
        exact ⟨z, w, f, b, own_imp (Same.refl _) _ _ _ _ (lst _ c) c, h⟩
      | ow d u =>
        rw [g] at q
        obtain ⟨w, b, c⟩ := q
        exact ⟨w, b, own_imp (Same.refl _) _ _ _ _ (lst _ c) c⟩
      | al r p =>
        rw [g] at q
        obtain ⟨z, w, vr, d, t2, c1, c2, c3, c4, c5⟩ := q
        refine ⟨z, w, vr, d, t2, c1, c2, ?_, node_upd e3 c4, c5⟩
        rw [get_put _ _ _ _ hi, if_neg (fun y => by rw [← y, he] at c3; cases c3)]
        exact c3
      | slf C' ns' ts' =>
        rw [g] at q
        obtain ⟨b, dx', ws, c1, c2, c3, c4⟩ := q
        refine ⟨b, dx', ws, c1, c2, (upd_ne (fun y => ?_)).trans c3, c4⟩
        subst y
        exact S.dj i j b e (by rw [e1]; exact List.mem_singleton.mpr rfl) (by rw [c1]; exact List.mem_singleton.mpr rfl)
theorem ss_fst (M : Γ.Mono) (G : Good c n C X N sc) {i : Nat} {x D f : Str} {fl : List Str} {e : Expr} {te : TE} {p pos pos' : Pos} (hi : N[i]? = some x) (hv : sc.names.lookup x = some .local ∨ sc.names.lookup x = some .cell ∨ sc.names.lookup x = some .free)
    (hd : (x == ("__debug__" : Str)) = false) (hc : (x == ("__classdict__" : Str)) = false) (hD : (D, fl) ∈ c.cls) (hf : f ∈ fl) (he : PE X e (trE Γ rd X.K te)) (hs : swapsWith e (some (.Attribute (.Name x p) f pos')) pos.line X.env = pure false) :
    PS X (.Assign [.Attribute (.Name x p) f pos'] e pos) (trS Γ rd X.K (.fst i D f te)) := by
  refine PS.mono (ps_fld (pe_var (i := i) (by rw [G.hN]; exact hi) (G.vis hv) hd hc) he hs) fun E σ H hl h => ?_
  obtain ⟨pn, He, H0e, H0, env, fps, DD, ok, S, L, h⟩ := h
  unfold wpS at h
  refine trE_of M S h fun t o H1 H' v x r q => ?_
  obtain ⟨q, rv⟩ := r.taken x q
  unfold fstT at q
  split at q
  · rename_i C' ns ts eg
    obtain ⟨rfl, h1, h2, h3, h4⟩ := q
    obtain ⟨a, dx, vs, e2, e3, e4, e5, S'⟩ := (S.mono x.frzN).setF eg h1 ((G.cls _ hD).2.1.no f hf) rv
    refine ⟨.ref a, e2, a, _, dx, _, rfl, e3, e5.cls, (G.cls _ hD).2.1.no f hf, ?_, L.nx _ _ _ _ _ S' h4⟩
    rw [List.length_zip]
    omega
  · exact q.elim
end
end PT

/-! GT1: a generator's statements over trees; for x in g(..) over trees. -/
namespace PT
open PySem PySem.Spec PyProof.Rows L2
section
variable {c : Cfg} {n : Nat} {C : CXT} {X : Cx} {N : List Str} {sc : Scope}
variable {pn : List (Nat × V)} {K : PySem.W.Frag} {He H0e H0 H H0' H' H0'' H'' : Hp} {σ : L2.St} {env : Env} {fps : Nat → List Addr} {t : T} {v : V} {o : Og}
variable {Γ : Gam} {rd : Nat → Nat}
/-! ### for x in g(..) -/
theorem ss_forG (M : Γ.Mono) (hΓ : Γ = gam c.tbl n) (G : Good c n C X N sc) {f i : Nat} {d : Def} {x : Str} {te : TEs} {tb : TSs} {e : Expr} {es : List Expr} {b : List Stmt} {xp p epos pos : Pos} (hn : X.xe = fun _ _ => False) (hst : X.stack = X.env :: X.outer) (hfr : X.env.frame = some X.env.locals)
    (hp : PassesOwn (model X.prog X.w) X.A X.env X.xe) (hf : c.tbl[f]? = some d) (hni : d.ini = none) (hG : d.isG = true) (hi : N[i]? = some x) (hx : sc.names.lookup x = some .local ∨ sc.names.lookup x = some .cell) (hg : sc.names.lookup d.name = some .globalImplicit) (hdb : (d.name == ("__debug__" : Str)) = false)
    (hpl : Plain (e :: es)) (ha : PA X (e :: es) (trA Γ rd X.K te)) (hb : PSs X b (trSs Γ rd X.K tb)) : PS X (.For (.Name x xp) (.Call (.Name d.name p) (e :: es) [] epos) b [] pos) (trS Γ rd X.K (.forG i f te tb)) := by
  obtain ⟨a, fd, hm, hk, F, hbd, _⟩ := G.gens f d hf hni hG
  have B : Binds X.K fd d.ps [] := Binds.all hbd
  have hp2 := hpl
  unfold Plain at hp2
  rw [List.all_cons, Bool.and_eq_true] at hp2
  have hp1 := hp2.1
  have q1 : starEach (e :: es) X.env = (false, eval e X.env) :: starEach es X.env := by cases e <;> first | rfl | cases hp1
  have hxe : ∀ e s, ¬ X.xe e s := fun e s h => by rw [hn] at h; exact h
  refine PS.mono (ps_forG hxe hn hp G.calm (show X.A.depth < recursionLimit from ?_) (pgm_call hst hfr F G.room (G.gl hg) hm hk B ha hdb q1 (any_star hp2.2)) (pg_name (i := i) (by rw [G.hN]; exact G.nd) (by rw [G.hN]; exact hi) (G.loc hx).1 (G.loc hx).2) hb fun _ => rfl) fun E σ H hl h => ?_
  · exact G.room.depth
  obtain ⟨pn, He, H0e, H0, env, fps, D, ok, S, L, h⟩ := h
  unfold wpS at h
  refine trA_of M S h fun l H1 H' vs x r q => ?_
  obtain ⟨ts, q, rp⟩ := r.taken x (Same.refl _) q
  subst hΓ
  have q := q.go
  refine ⟨_, ts, _, frzN_same x.le, rp, q, fun zs q => ⟨by omega, ?_⟩⟩
  have q : forL _ (zs.map fun t => [(i, .sh t)]) env D.nx := q
  let Fn : List (Nat × Sl) → Env → (Env → Prop) → Prop := fun x env k => wpSs (gam c.tbl n) rd tb (env.puts x) { nx := k, rt := D.rt, bk := D.nx, ct := k }
  have S1 := S.mono x.frzN
  refine ⟨fun m σ H F => ∃ k env fps, m + k = zs.length + 2 ∧ StR X.K pn He H0e F H σ env fps ∧ forL Fn ((zs.drop k).map fun t => [(i, .sh t)]) env D.nx, _, ⟨0, env, fps, rfl, S1, by rw [List.drop_zero]; exact q⟩, Same.refl _, S1.le, ?_, ?_⟩
  · rintro m k y σ1 Hw Fw G2 H2 hk hm ⟨k', env, fps, ek, S2, q⟩ le ⟨ex, t, ht, rt⟩
    have e : k' = k := by omega
    subst e
    have lt : k' < zs.length := idx_lt ht
    have et : zs[k'] = t := by rw [List.getElem?_eq_getElem lt] at ht; exact Option.some.inj ht
    rw [drop_cons lt, et] at q
    have q : Fn [(i, .sh t)] env fun env' => forL Fn ((zs.drop (k' + 1)).map fun t => [(i, .sh t)]) env' D.nx := q
    have S3 := S2.mono ex
    obtain ⟨fp3, S4⟩ := S3.putX (i := i) (v := y) (s := .sh t) rt (okP_ne ok List.mem_cons_self)
    have xb := S4.ext
    have S5 := S4.base xb (Same.refl _)
    have nxt : ∀ H0 H σ env fps, StR X.K pn He G2 H0 H σ env fps → forL Fn ((zs.drop (k' + 1)).map fun t => [(i, .sh t)]) env D.nx → ∃ F', (∃ k env fps, m + k = zs.length + 2 ∧ StR X.K pn He H0e F' H σ env fps ∧ forL Fn ((zs.drop k).map fun t => [(i, .sh t)]) env D.nx) ∧ Same G2 F' ∧ Same F' H :=
      fun H0 H σ env fps S q => ⟨H0, ⟨k' + 1, env, fps, by omega, S.back xb, q⟩, S.ext.s0, S.le⟩
    exact ⟨pn, He, G2, G2, _, fp3, { nx := fun env' => forL Fn ((zs.drop (k' + 1)).map fun t => [(i, .sh t)]) env' D.nx, rt := D.rt, bk := D.nx, ct := fun env' => forL Fn ((zs.drop (k' + 1)).map fun t => [(i, .sh t)]) env' D.nx }, fun q hq m => ok q hq (List.mem_cons_of_mem _ m), S5,
      ⟨nxt, fun H0 H o t v x r q => L.rt H0 H o t v (Ext.back xb x) r q, fun H0 H σ env fps S q => L.nx _ _ _ _ _ (S.back xb) q, nxt⟩, q⟩
  · rintro m k σ1 Hw Fw H2 hk ⟨k', env, fps, ek, S2, q⟩ le hq
    have hq : k = zs.length := hq
    have e : k' = zs.length := by omega
    subst e
    rw [List.drop_length] at q
    exact L.nx _ _ _ _ _ (S2.mono ⟨le, Same.refl _, S2.le.trans le, fun _ _ _ => rfl⟩) q
/-! ### a generator's own statements -/
structure LiftG (K : PySem.W.Frag) (D : DG) (E : GEnds) : Prop where
  nx : ∀ k B F H0 H σ env fps, StR K [] B F H0 H σ env fps → D.nx env k → E.nx k B F σ H
  rt : ∀ k B F H0 H o t v, Ext F B H0 H → VR K B B H0 H o t v → D.rt t k → E.rt k B F v H
  bk : ∀ k B F H0 H σ env fps, StR K [] B F H0 H σ env fps → D.bk env k → E.bk k B F σ H
  ct : ∀ k B F H0 H σ env fps, StR K [] B F H0 H σ env fps → D.ct env k → E.ct k B F σ H
def trG (Γ : Gam) (rd : Nat → Nat) (K : PySem.W.Frag) (zs : List T) (s : TS) : TGn := fun E k B F σ H => ∃ H0 env fps D, StR K [] B F H0 H σ env fps ∧ LiftG K D E ∧ wpG Γ rd zs s env k D
def trGs (Γ : Gam) (rd : Nat → Nat) (K : PySem.W.Frag) (zs : List T) (s : TSs) : TGn := fun E k B F σ H => ∃ H0 env fps D, StR K [] B F H0 H σ env fps ∧ LiftG K D E ∧ wpGs Γ rd zs s env k D
variable {m : Nat} {Fi : GFi} {Z : GZ} {zs : List T}
theorem GS.mono {st : Stmt} {t t' : TGn} (h : GS m X Fi Z st t) (k : ∀ D j B F σ H, σ.length = X.N.length → t' D j B F σ H → t D j B F σ H) : GS m X Fi Z st t' :=
  ⟨fun A ip R n j s₀ H₀ F c fs K J gd lv s σ H D g hn kk hf hI ht => h.run A ip R n j s₀ H₀ F c fs K J gd lv s σ H D g hn kk hf hI (k D j H₀ F σ H hI.len ht)⟩
theorem GSs.mono {st : List Stmt} {t t' : TGn} (h : GSs m X Fi Z st t) (k : ∀ D j B F σ H, σ.length = X.N.length → t' D j B F σ H → t D j B F σ H) : GSs m X Fi Z st t' :=
  ⟨fun A ip R n j s₀ H₀ F c fs K J gd lv s σ H D g hn kk hf hI ht => h.run A ip R n j s₀ H₀ F c fs K J gd lv s σ H D g hn kk hf hI (k D j H₀ F σ H hI.len ht)⟩
theorem g_nil : GSs m X Fi Z [] (trGs Γ rd X.K zs .nil) := by
  refine GSs.mono gss_nil fun E k B F σ H _ h => ?_
  obtain ⟨H0, env, fps, D, S, L, h⟩ := h
  unfold wpGs at h
  exact L.nx _ _ _ _ _ _ _ _ S h
theorem g_cons {s : TS} {r : TSs} {st : Stmt} {rest : List Stmt} (h1 : GS m X Fi Z st (trG Γ rd X.K zs s)) (h2 : GSs m X Fi Z rest (trGs Γ rd X.K zs r)) : GSs m X Fi Z (st :: rest) (trGs Γ rd X.K zs (.cons s r)) := by
  refine GSs.mono (gss_cons h1 h2) fun E k B F σ H _ h => ?_
  obtain ⟨H0, env, fps, D, S, L, h⟩ := h
  unfold wpGs at h
  exact ⟨H0, env, fps, { D with nx := fun env' k' => wpGs Γ rd zs r env' k' D }, S, ⟨fun k B F H0 H σ env fps S q => ⟨H0, env, fps, D, S, L, q⟩, L.rt, L.bk, L.ct⟩, h⟩
/-- what hands out nothing -/
theorem g_plain {s : TS} {st : Stmt} (hx : ∀ e s, ¬ X.xe e s) (hw : ∀ env k D, wpG Γ rd zs s env k D → wpS Γ rd s env (D.at k)) (h : ∀ s₀ H₀, PS (reX X s₀ H₀) st (trS Γ rd X.K s)) : GS m X Fi Z st (trG Γ rd X.K zs s) := by
  refine GS.mono (gs_ps hx h) fun E k B F σ H _ h => ?_
  obtain ⟨H0, env, fps, D, S, L, h⟩ := h
  exact ⟨[], B, F, H0, env, fps, D.at k, fun q hq => (by cases hq), S, ⟨fun H0 H σ env fps S q => L.nx k B F H0 H σ env fps S q, fun H0 H o t v x r q => L.rt k B F H0 H o t v x r q, fun H0 H σ env fps S q => L.bk k B F H0 H σ env fps S q, fun H0 H σ env fps S q => L.ct k B F H0 H σ env fps S q⟩, hw _ _ _ h⟩
/-- names forgotten -/
theorem g_fgt {is : List Nat} {r : TSs} {sts : List Stmt} (hN : X.N = N) (hi : ∀ i ∈ is, i < N.length) (h2 : GSs m X Fi Z sts (trGs Γ rd X.K zs r)) : GSs m X Fi Z sts (trGs Γ rd X.K zs (.cons (.fgt is) r)) := by
  refine GSs.mono h2 fun E k B F σ H hl h => ?_
  obtain ⟨H0, env, fps, D, S, L, h⟩ := h
  unfold wpGs wpG at h
  unfold wpS at h
  obtain ⟨fps', S'⟩ := S.fgt is (fun i m => by rw [hl, hN]; exact hi i m) fun i m q hq => by cases hq
  exact ⟨H0, _, fps', D, S', L, h⟩
theorem g_frz {i : Nat} {r : TSs} {sts : List Stmt} (h2 : GSs m X Fi Z sts (trGs Γ rd X.K zs r)) : GSs m X Fi Z sts (trGs Γ rd X.K zs (.cons (.frz i) r)) := by
  refine GSs.mono h2 fun E k B F σ H hl h => ?_
  obtain ⟨H0, env, fps, D, S, L, h⟩ := h
  unfold wpGs wpG at h
  unfold wpS wpFrz at h
  split at h
  · rename_i d t e
    obtain ⟨H0n, fps', S', _⟩ := S.frz e
    exact ⟨H0n, _, fps', D, S', L, h⟩
  · rename_i r p e
    split at h
    · rename_i d t e2
      obtain ⟨hp, t', h1, h3⟩ := h
      have q := S.slot i
      rw [e] at q
      obtain ⟨_, v, vr, d', t2, q1, q2, q3, q4, q5, q6⟩ := q
      rw [e2] at q3
      cases q3
      obtain ⟨H0n, fps', S', fz⟩ := S.frz e2
      have hi : i < σ.length := by rw [← S.len]; exact get_lt (by rw [e]; exact Sl.noConfusion)
      exact ⟨H0n, _, _, D, S'.re (s := .sh t') hi ⟨rfl, v, q1, fz p vr t' v q4 q2 h1 hp⟩, L, h3⟩
    · exact h.elim
  · exact ⟨H0, env, fps, D, S, L, h⟩
/-- all is frozen: the frame at a wake -/
theorem StR.woken {B F H0 H G F2 H2 : Hp} (S : StR K [] B F H0 H σ env fps) (hf : env.all Sl.frozen = true) (l1 : Same H0 F2) (l2 : Same F2 H2) : StR K [] H2 F2 F2 H2 σ env fun _ => [] := by
  have fz : ∀ (env : Env) (i : Nat), env.all Sl.frozen = true → (env.get i).frozen = true := by
    intro env
    induction env with
    | nil => intro i _; cases i <;> rfl
    | cons s r ih =>
      intro i h
      rw [List.all_cons, Bool.and_eq_true] at h
      cases i with
      | zero => exact h.1
      | succ i => exact ih i h.2
  refine ⟨Ext.refl l2, S.len, fun i => ?_, fun _ => .nil, (fun i j a _ ha => by cases ha), (fun i a ha => by cases ha), (fun q hq => by cases hq)⟩
  have q := S.slot i
  have f := fz env i hf
  cases g : env.get i with
  | em => exact rfl
  | sh t =>
    rw [g] at q
    obtain ⟨_, v, e1, r⟩ := q
    exact ⟨rfl, v, e1, rep_mono l1 t v r⟩
  | ow d t => rw [g] at f; cases f
  | al r p => rw [g] at f; cases f
  | br d t => rw [g] at f; cases f
  | slf C ns ts => rw [g] at f; cases f
theorem g_yld (M : Γ.Mono) {te : TE} {e : Expr} {yp pos : Pos} (hx : ∀ e s, ¬ X.xe e s) (he : ∀ s₀ H₀, PE (reX X s₀ H₀) e (trE Γ rd X.K te)) (hco : X.env.scope.isCoroutine = false) (hi : interactive X.env = false) :
    GS (zs.length + 2) X Fi (gz X.K zs) (.Expr (.Yield (some e) yp) pos) (trG Γ rd X.K zs (.yld te)) := by
  refine GS.mono (gs_yield hx he hco hi) fun E k B F σ H _ h => ?_
  obtain ⟨H0, env, fps, D, S, L, h⟩ := h
  unfold wpG at h
  obtain ⟨lt, h⟩ := h
  refine ⟨by omega, trE_of M S h fun t o H1 H' v x r q => ?_⟩
  obtain ⟨⟨q1, q2, q3⟩, rv⟩ := r.taken x q
  have S1 := S.mono x.frzN
  exact ⟨frzN H H1 H', ⟨S1.ext, t, q1, rv⟩, S1.ext.s, fun H2 F2 l1 l2 => L.nx _ _ _ _ _ _ _ _ (S1.woken (G := F2) q2 l1 l2) q3⟩
theorem g_whl (M : Γ.Mono) {te : TE} {tb : TSs} {e : Expr} {b : List Stmt} {pos : Pos} (hy : tb.hasY = true) (hx : ∀ e s, ¬ X.xe e s) (he : ∀ s₀ H₀, L2.PT (reX X s₀ H₀) e (trT Γ rd X.K te)) (hb : GSs m X Fi Z b (trGs Γ rd X.K zs tb)) : GS m X Fi Z (.While e b [] pos) (trG Γ rd X.K zs (.whl te tb)) := by
  refine GS.mono (gs_while hx he hb) fun E k B F σ H _ h => ?_
  obtain ⟨H0, env, fps, D, S, L, h⟩ := h
  unfold wpG at h
  rw [if_pos hy] at h
  obtain ⟨j, h⟩ := h
  let W : Nat → Nat → Hp → Hp → L2.St → Hp → Prop := fun j k B F σ H => ∃ H0 env fps, StR X.K [] B F H0 H σ env fps ∧ wpWhG (fun env Q => wpE Γ rd te env fun x _ => tru x Q) (fun env k K => wpGs Γ rd zs tb env k { nx := K, rt := D.rt, bk := D.nx, ct := K }) j env k D.nx
  refine ⟨W, ⟨j, H0, env, fps, S, h⟩, ?_⟩
  rintro j k B F σ H ⟨H0, env, fps, S, h⟩
  cases j with
  | zero => exact h.elim
  | succ j =>
    refine trT_of M S h fun b H1 H' x q => ?_
    cases b with
    | false => exact L.nx _ _ _ _ _ _ _ _ (S.mono x) q
    | true =>
      exact ⟨W j, fun k' B' F' σ' H' w => ⟨j, Nat.lt_succ_self j, w⟩, H1, env, fps, { nx := fun env' k' => wpWhG (fun env Q => wpE Γ rd te env fun x _ => tru x Q) (fun env k K => wpGs Γ rd zs tb env k { nx := K, rt := D.rt, bk := D.nx, ct := K }) j env' k' D.nx, rt := D.rt, bk := D.nx, ct := fun env' k' => wpWhG (fun env Q => wpE Γ rd te env fun x _ => tru x Q) (fun env k K => wpGs Γ rd zs tb env k { nx := K, rt := D.rt, bk := D.nx, ct := K }) j env' k' D.nx }, S.mono x,
        ⟨fun k B F H0 H σ env fps S q => ⟨H0, env, fps, S, q⟩, L.rt, L.nx, fun k B F H0 H σ env fps S q => ⟨H0, env, fps, S, q⟩⟩, q⟩
end
end PT

namespace PT
open PySem PySem.Spec PyProof.Rows L2
/-! ### the program's text against the syntax -/
def eqS (a b : Str) : Bool := decide (a = b)
def plainN (x : Str) : Bool := !(x == ("__debug__" : Str)) && !(x == ("__classdict__" : Str))
def isV (sc : Scope) (x : Str) : Bool := (match sc.names.lookup x with | some .local => true | some .cell => true | some .free => true | _ => false) && plainN x
def isL (sc : Scope) (x : Str) : Bool := match sc.names.lookup x with | some .local => true | some .cell => true | _ => false
def isG (sc : Scope) (x : Str) : Bool := match sc.names.lookup x with | some .globalImplicit => true | _ => false
def nmAt (N : List Str) (i : Nat) (x : Str) : Bool := decide (N[i]? = some x)
def ntI : Expr → Bool
  | .IfExp .. => false
  | _ => true
def ntSet : Expr → Bool
  | .Set .. => false
  | _ => true
def lcOwn (N : List Str) (is : List Nat) : List (Str × Nat) := is.map fun i => (N.getD i "", i)
def chkTg (N : List Str) (sc : Scope) : It → Expr → Bool
  | .seq i _, e => (match e with | .Name x _ => nmAt N i x && isL sc x | _ => false)
  | .rng i _, e => (match e with | .Name x _ => nmAt N i x && isL sc x | _ => false)
  | .zip i j _ _, e => (match e with | .Tuple [.Name x _, .Name y _] _ _ => nmAt N i x && isL sc x && nmAt N j y && isL sc y | _ => false)
def kdOk (sc : Scope) : List Kd → List Expr → Bool
  | [], [] => true
  | k :: ks, .Name x _ :: r => eqS x (kdS k) && isG sc (kdS k) && kdOk sc ks r
  | _, _ => false
def defAt (c : Cfg) (f : Nat) (x : Str) : Bool := match c.tbl[f]? with
  | some d => eqS d.name x
  | none => false
def isCls (c : Cfg) (D : Str) : Bool := c.cls.any fun p => eqS p.1 D
/-- a call of the table's f: a def, or the making of an instance -/
def callOk (c : Cfg) (f : Nat) (bw none_ : Bool) : Bool := match c.tbl[f]? with
  | some d => (match d.ini with
    | none => !d.isG && d.own.isNone
    | some D => !bw && !none_ && isCls c D)
  | none => false
/-- a def to which its p-th argument is given away -/
def ownOk (c : Cfg) (f p dp : Nat) : Bool := match c.tbl[f]? with
  | some d => d.ini.isNone && !d.isG && (match d.own with
    | some (p', dp') => decide (p = p') && decide (dp = dp')
    | none => false)
  | none => false
/-- a def that makes a new list -/
def newOk (c : Cfg) (f : Nat) : Bool := match c.tbl[f]? with
  | some d => d.ini.isNone && !d.isG && d.own.isNone && decide (d.rd = 1)
  | none => false
def ntSup : Expr → Bool
  | .Call .. => false
  | _ => true
def kwNames : List Keyword → Option (List Str)
  | [] => some []
  | ⟨some x, _, _⟩ :: r => (match kwNames r with | some l => some (x :: l) | none => none)
  | ⟨none, _, _⟩ :: _ => none
mutual
def chkE (c : Cfg) (N : List Str) : TE → Scope → Expr → Bool
  | .var i, sc, e => (match e with | .Name x _ => nmAt N i x && isV sc x | _ => false)
  | .int i, _, e => (match e with | .Constant (.int j) _ _ => decide (i = j) | _ => false)
  | .bl b, _, e => (match e with | .Constant (.bool j) _ _ => decide (b = j) | _ => false)
  | .non, _, e => (match e with | .Constant .none _ _ => true | _ => false)
  | .str x, _, e => (match e with | .Constant (.str j) _ _ => eqS x j | _ => false)
  | .tup ts, sc, e => (match e with | .Tuple es _ _ => chkEs c N ts sc es | _ => false)
  | .lst _ ts, sc, e => (match e with | .List es _ => chkEs c N ts sc es | _ => false)
  | .bin op a b, sc, e => (match e with | .BinOp l o r _ => decide (o = bOp op) && chkE c N a sc l && chkE c N b sc r | _ => false)
  | .neg a, sc, e => (match e with | .UnaryOp .USub l _ => chkE c N a sc l | _ => false)
  | .cmp op a b, sc, e => (match e with | .Compare l [o] [r] _ => decide (o = cOp op) && !behindInMarks (cOp op) r && chkE c N a sc l && chkE c N b sc r | _ => false)
  | .bop and a ts, sc, e => (match e with | .BoolOp o (l :: r) _ => decide (o = (if and then .And else .Or)) && ntI l && chkE c N a sc l && chkTs c N ts sc r | _ => false)
  | .not a, sc, e => (match e with | .UnaryOp .Not l _ => ntI l && chkE c N a sc l | _ => false)
  | .ife t a b, sc, e => (match e with | .IfExp l m r _ => ntI l && chkE c N t sc l && chkE c N a sc m && chkE c N b sc r | _ => false)
  | .idx a i, sc, e => (match e with | .Subscript l k _ => nsl k && chkE c N a sc l && chkE c N i sc k | _ => false)
  | .slc a lo hi, sc, e => (match e with | .Subscript l (.Slice x y none _) _ => chkE c N a sc l && chkO c N lo sc x && chkO c N hi sc y | _ => false)
  | .call f bw dv ts, sc, e => (match e with | .Call (.Name x _) es [] _ => defAt c f x && isG sc x && plainN x && dv.isEmpty && callOk c f bw es.isEmpty && chkEs c N ts sc es | _ => false)
  | .callO f p dp ts, sc, e => (match e with | .Call (.Name x _) (a :: es) [] _ => defAt c f x && isG sc x && plainN x && ownOk c f p dp && chkEs c N ts sc (a :: es) | _ => false)
  | .callB f ts, sc, e => (match e with | .Call (.Name x _) (a :: es) [] _ => defAt c f x && isG sc x && plainN x && newOk c f && chkEs c N ts sc (a :: es) | _ => false)
  | .callK f bw ord ts us, sc, e => (match e with | .Call (.Name x _) es (k :: ks) _ => defAt c f x && isG sc x && plainN x && callOk c f bw false && (!bw || decide (ts.len = 0)) && (c.kws.any fun q => decide (q.f = f) && decide (q.ord = ord) && decide (q.n = ts.len) && decide (us.len = q.ks.length) && decide (kwNames (k :: ks) = some q.ks)) && chkEs c N ts sc es && chkK c N us sc (k :: ks) | _ => false)
  | .blt f ts, sc, e => (match e with | .Call (.Name x _) (a :: es) [] _ => eqS x (bltS f) && isG sc (bltS f) && chkEs c N ts sc (a :: es) | _ => false)
  | .gcd a b, sc, e => (match e with | .Call (.Name x _) [l, r] [] _ => eqS x "gcd" && c.gcd && isG sc "gcd" && nst l && nst r && chkE c N a sc l && chkE c N b sc r | _ => false)
  | .isin a ks, sc, e => (match e with
    | .Call (.Name x _) [l, .Tuple es _ _] [] _ => eqS x "isinstance" && isG sc "isinstance" && nst l && kdOk sc ks es && decide (ks.length ≤ 100) && chkE c N a sc l
    | .Call (.Name x _) [l, .Name y _] [] _ => eqS x "isinstance" && isG sc "isinstance" && nst l && (match ks with | [k] => eqS y (kdS k) && isG sc (kdS k) | _ => false) && chkE c N a sc l
    | _ => false)
  | .isc a D oth, sc, e => (match e with
    | .Call (.Name x _) [l, .Name y _] [] _ => eqS x "isinstance" && isG sc "isinstance" && nst l && eqS y D && isG sc D && plainN D && isCls c D && (oth.all fun C => isCls c C) && chkE c N a sc l
    | _ => false)
  | .fld a f, sc, e => (match e with | .Attribute l m _ => eqS m f && ntSup l && chkE c N a sc l | _ => false)
  | .fldS i f, sc, e => (match e with | .Attribute (.Name x _) m _ => eqS m f && nmAt N i x && isV sc x | _ => false)
  | .lrng ts, sc, e => (match e with | .Call (.Name x _) [.Call (.Name y _) es [] _] [] _ => eqS x "list" && isG sc "list" && eqS y "range" && isG sc "range" && (decide (ts.len = 1) || decide (ts.len = 2)) && chkEs c N ts sc es | _ => false)
  | .lc _ it cs a, sc, e => (match e with | .ListComp elt [⟨tg, iter, ifs, 0⟩] scope _ => blkC N sc scope (lcOwn N it.slots) && ntSet iter && chkI c N it sc iter && chkTg N scope it tg && chkC c N cs scope ifs && chkE c N a scope elt | _ => false)
  | .lc2 _ it it2 cs cs2 a, sc, e => (match e with | .ListComp elt [⟨tg, iter, ifs, 0⟩, ⟨tg2, iter2, ifs2, 0⟩] scope _ => blkC N sc scope (lcOwn N (it.slots ++ it2.slots)) && ntSet iter && ntSet iter2 && chkI c N it sc iter && chkTg N scope it tg && chkC c N cs scope ifs && chkI c N it2 scope iter2 && chkTg N scope it2 tg2 && chkC c N cs2 scope ifs2 && chkE c N a scope elt | _ => false)
def chkO (c : Cfg) (N : List Str) : TO → Scope → Option Expr → Bool
  | .none, _, e => (match e with | none => true | _ => false)
  | .some a, sc, e => (match e with | some x => chkE c N a sc x | none => false)
def chkEs (c : Cfg) (N : List Str) : TEs → Scope → List Expr → Bool
  | .nil, _, es => (match es with | [] => true | _ => false)
  | .cons a ts, sc, es => (match es with | e :: r => nst e && chkE c N a sc e && chkEs c N ts sc r | [] => false)
def chkTs (c : Cfg) (N : List Str) : TEs → Scope → List Expr → Bool
  | .nil, _, es => (match es with | [] => true | _ => false)
  | .cons a ts, sc, es => (match es with | e :: r => ntI e && chkE c N a sc e && chkTs c N ts sc r | [] => false)
def chkK (c : Cfg) (N : List Str) : TEs → Scope → List Keyword → Bool
  | .nil, _, es => (match es with | [] => true | _ => false)
  | .cons a ts, sc, es => (match es with | ⟨some _, e, _⟩ :: r => chkE c N a sc e && chkK c N ts sc r | _ => false)
def chkC (c : Cfg) (N : List Str) : TEs → Scope → List Expr → Bool
  | .nil, _, es => (match es with | [] => true | _ => false)
  | .cons a ts, sc, es => (match es with | [e] => ntI e && chkE c N a sc e && decide (ts.len = 0) | _ => false)
def chkI (c : Cfg) (N : List Str) : It → Scope → Expr → Bool
  | .seq _ a, sc, e => chkE c N a sc e
  | .rng _ ts, sc, e => (match e with | .Call (.Name x _) es [] _ => eqS x "range" && isG sc "range" && (decide (ts.len = 1) || decide (ts.len = 2)) && chkEs c N ts sc es | _ => false)
  | .zip _ _ a b, sc, e => (match e with | .Call (.Name x _) [l, r] [] _ => eqS x "zip" && isG sc "zip" && nst l && nst r && chkE c N a sc l && chkE c N b sc r | _ => false)
end
def ntCmp : Expr → Bool
  | .ListComp .. => false
  | .SetComp .. => false
  | .DictComp .. => false
  | _ => true
def chkL (c : Cfg) (N : List Str) (sc : Scope) (i : Nat) : TEs → Expr → Bool
  | .nil, e => (match e with | .Name x _ => nmAt N i x && isV sc x | _ => false)
  | .cons a ts, e => (match e with | .Subscript l k _ => nsl k && chkL c N sc i ts l && chkE c N a sc k | _ => false)
def nmsOk (N : List Str) (sc : Scope) : List Nat → List Expr → Bool
  | [], es => es.isEmpty
  | i :: is, es => (match es with | .Name x _ :: r => nmAt N i x && isL sc x && nmsOk N sc is r | _ => false)
def ntTup : Expr → Bool
  | .Tuple .. => false
  | _ => true
def swNo (sc : Scope) (x : Str) : Expr → Bool
  | .ListComp .. => decide (sc.names.lookup x = some .cell)
  | _ => false
def swLc (sc : Scope) (x : Str) (p : Pos) : Expr → Bool
  | .ListComp _ _ scope p2 => decide (sc.names.lookup x = some .local) && (p.line == p2.line) && !(scope.names.any fun (n, k) => n == x && (k == .local || k == .cell))
  | _ => false
/-- a generator def of the table -/
def genOk (c : Cfg) (f : Nat) : Bool := match c.tbl[f]? with
  | some d => d.ini.isNone && d.isG
  | none => false
mutual
def chkS (c : Cfg) (N : List Str) (sc : Scope) : TS → Stmt → Bool
  | .asg i _ a, s => (match s with | .Assign [.Name x p] e pos => nmAt N i x && isL sc x && chkE c N a sc e && (ntCmp e || swNo sc x e || swLc sc x p e) | _ => false)
  | .ali i j ts, s => (match s with | .Assign [.Name x p] e pos => nmAt N i x && isL sc x && chkL c N sc j ts e | _ => false)
  | .unp is a, s => (match s with | .Assign [.Tuple es _ _] e _ => nmsOk N sc is es && chkE c N a sc e && ntTup e && ntCmp e | _ => false)
  | .app i ts a, s => (match s with | .Expr (.Call (.Attribute o m apos) [e] [] cpos) _ => eqS m "append" && (apos.endLine == cpos.line) && ntSup o && nst e && chkL c N sc i ts o && chkE c N a sc e | _ => false)
  | .sto i ts tk a, s => (match s with | .Assign [.Subscript o x _] e _ => nsl x && chkL c N sc i ts o && chkE c N tk sc x && chkE c N a sc e | _ => false)
  | .ex a, s => (match s with | .Expr e _ => ntCmp e && chkE c N a sc e | _ => false)
  | .ite t a b, s => (match s with | .If e x y _ => ntI e && chkE c N t sc e && chkSs c N sc a x && chkSs c N sc b y | _ => false)
  | .whl t b, s => (match s with | .While e x [] _ => ntI e && chkE c N t sc e && chkSs c N sc b x | _ => false)
  | .for_ it b, s => (match s with | .For tg e x [] _ => ntSet e && chkI c N it sc e && chkTg N sc it tg && chkSs c N sc b x | _ => false)
  | .forO i j b, s => (match s with | .For (.Name x _) (.Name y _) bd [] _ => nmAt N i x && isL sc x && nmAt N j y && isV sc y && decide (j ∉ i :: b.wr) && chkSs c N sc b bd | _ => false)
  | .forD i j ts b, s => (match s with | .For (.Name x _) e bd [] _ => ntSet e && nmAt N i x && isL sc x && chkL c N sc j ts e && chkSs c N sc b bd | _ => false)
  | .ret a, s => (match s with | .Return (some e) _ => chkE c N a sc e | _ => false)
  | .retV i, s => (match s with | .Return (some (.Name x _)) _ => nmAt N i x && isV sc x | _ => false)
  | .retN, s => (match s with | .Return none _ => true | _ => false)
  | .brk, s => (match s with | .Break _ => true | _ => false)
  | .cnt, s => (match s with | .Continue _ => true | _ => false)
  | .rse, s => (match s with | .Raise _ _ _ => true | _ => false)
  | .pas, s => (match s with | .Pass _ => true | .Expr (.Constant (.str _) _ _) _ => true | _ => false)
  | .forG i f ts b, s => (match s with | .For (.Name x _) (.Call (.Name g _) es [] _) bd [] _ => nmAt N i x && isL sc x && defAt c f g && genOk c f && isG sc g && plainN g && !es.isEmpty && chkEs c N ts sc es && chkSs c N sc b bd | _ => false)
  | .yld _, _ => false
  | .frz _, _ => false
  | .fgt _, _ => false
  | .fst i D f a, s => (match s with | .Assign [.Attribute (.Name x _) m _] e _ => eqS m f && nmAt N i x && isV sc x && ntCmp e && (c.cls.any fun p => eqS p.1 D && p.2.any fun g => eqS g f) && chkE c N a sc e | _ => false)
  | .appMv i ts j, s => (match s with | .Expr (.Call (.Attribute o m apos) [.Name y _] [] cpos) _ => eqS m "append" && (apos.endLine == cpos.line) && ntSup o && nmAt N j y && isV sc y && chkL c N sc i ts o | _ => false)
def chkSs (c : Cfg) (N : List Str) (sc : Scope) : TSs → List Stmt → Bool
  | .nil, l => (match l with | [] => true | _ => false)
  | .cons (.frz _) r, l => chkSs c N sc r l
  | .cons (.fgt is) r, l => (is.all fun i => decide (i < N.length)) && chkSs c N sc r l
  | .cons s r, l => (match l with | x :: y => chkS c N sc s x && chkSs c N sc r y | [] => false)
end
/-- a statement that hands out nothing -/
def TS.plain : TS → Bool
  | .yld _ => false
  | .ite _ a b => !(a.hasY || b.hasY)
  | .whl _ b => !b.hasY
  | _ => true
mutual
def chkG (c : Cfg) (N : List Str) (sc : Scope) : TS → Stmt → Bool
  | .yld a, s => (match s with | .Expr (.Yield (some e) _) _ => chkE c N a sc e | _ => false)
  | .whl t b, s => if b.hasY = true then (match s with | .While e x [] _ => ntI e && chkE c N t sc e && chkGs c N sc b x | _ => false) else chkS c N sc (.whl t b) s
  | s, st => s.plain && chkS c N sc s st
def chkGs (c : Cfg) (N : List Str) (sc : Scope) : TSs → List Stmt → Bool
  | .nil, l => (match l with | [] => true | _ => false)
  | .cons (.frz _) r, l => chkGs c N sc r l
  | .cons (.fgt is) r, l => (is.all fun i => decide (i < N.length)) && chkGs c N sc r l
  | .cons s r, l => (match l with | x :: y => chkG c N sc s x && chkGs c N sc r y | [] => false)
end
end PT

namespace PT
open PySem PySem.Spec PyProof.Rows L2
section
variable {c : Cfg} {n : Nat} {C : CXT} {X : Cx} {N : List Str} {sc : Scope}
theorem eqS_eq {a b : Str} (h : eqS a b = true) : a = b := of_decide_eq_true h
theorem nmAt_eq {i : Nat} {x : Str} (h : nmAt N i x = true) : N[i]? = some x := of_decide_eq_true h
theorem plain_of {x : Str} (h : plainN x = true) : (x == ("__debug__" : Str)) = false ∧ (x == ("__classdict__" : Str)) = false := by
  unfold plainN at h
  simp only [Bool.and_eq_true, Bool.not_eq_true'] at h
  exact h
theorem isV_of {x : Str} (h : isV sc x = true) : (sc.names.lookup x = some .local ∨ sc.names.lookup x = some .cell ∨ sc.names.lookup x = some .free) ∧ (x == ("__debug__" : Str)) = false ∧ (x == ("__classdict__" : Str)) = false := by
  unfold isV at h
  rw [Bool.and_eq_true] at h
  obtain ⟨h1, h2⟩ := h
  refine ⟨?_, plain_of h2⟩
  split at h1
  · exact .inl (by assumption)
  · exact .inr (.inl (by assumption))
  · exact .inr (.inr (by assumption))
  · cases h1
theorem isL_of {x : Str} (h : isL sc x = true) : sc.names.lookup x = some .local ∨ sc.names.lookup x = some .cell := by
  unfold isL at h
  split at h
  · exact .inl (by assumption)
  · exact .inr (by assumption)
  · cases h
theorem isG_of {x : Str} (h : isG sc x = true) : sc.names.lookup x = some .globalImplicit := by
  unfold isG at h
  split at h
  · assumption
  · cases h
theorem fset {e : Expr} (h : ntSet e = true) (env : PySem.Env) (x : Value) : foldedSetIterable e env x = pure x := by
  cases e <;> first | rfl | cases h
/-- a comprehension's block -/
theorem Good.blk (G : Good c n C X N sc) {scope : Scope} (s : Shared) (H : Hp) (A : Addr) (cl : List (Str × Addr)) (fp : List Addr) : Good c n C (X.blk s H scope (compEnvC scope cl A X.env) fp) N scope where
  hN := G.hN
  nd := G.nd
  calm := G.calm
  look := fun x k h => by
    have e : (compEnvC scope cl A X.env).scope = relS scope X.env.scope := rfl
    show (compEnvC scope cl A X.env).scope.names.lookup x = some k ∨ _
    rw [e]
    by_cases hk : k = .free
    · subst hk
      have : ∀ names : List (Str × NameKind), names.lookup x = some .free → (names.map fun (n, k) => if (k == NameKind.free && X.env.scope.kind == .function && X.env.scope.names.lookup n == some .cell) then (n, NameKind.cell) else (n, k)).lookup x = some .free ∨
          (names.map fun (n, k) => if (k == NameKind.free && X.env.scope.kind == .function && X.env.scope.names.lookup n == some .cell) then (n, NameKind.cell) else (n, k)).lookup x = some .cell := by
        intro names
        induction names with
        | nil => intro h; simp at h
        | cons a r ih =>
          obtain ⟨m, k0⟩ := a
          intro h
          show List.lookup x ((if (k0 == NameKind.free && X.env.scope.kind == .function && X.env.scope.names.lookup m == some .cell) = true then (m, NameKind.cell) else (m, k0)) :: (r.map _)) = _ ∨ List.lookup x ((if (k0 == NameKind.free && X.env.scope.kind == .function && X.env.scope.names.lookup m == some .cell) = true then (m, NameKind.cell) else (m, k0)) :: (r.map _)) = _
          cases hx : x == m with
          | true =>
            simp only [List.lookup_cons, hx] at h
            cases h
            by_cases hc : (NameKind.free == NameKind.free && X.env.scope.kind == .function && X.env.scope.names.lookup m == some .cell) = true
            · rw [if_pos hc]; right; simp only [List.lookup_cons, hx]
            · rw [if_neg hc]; left; simp only [List.lookup_cons, hx]
          | false =>
            simp only [List.lookup_cons, hx] at h
            by_cases hc : (k0 == NameKind.free && X.env.scope.kind == .function && X.env.scope.names.lookup m == some .cell) = true
            · rw [if_pos hc]; simp only [List.lookup_cons, hx]; exact ih h
            · rw [if_neg hc]; simp only [List.lookup_cons, hx]; exact ih h
      rcases this _ h with q | q
      · exact .inl q
      · exact .inr ⟨rfl, q⟩
    · exact .inl (lookup_relS_keep hk h)
  fnc := fun x h => by
    show (scope.names.lookup x == some .cell) = true
    rw [h]
    rfl
  room := G.room
  blt := G.blt
  gcd := G.gcd
  fns := G.fns
  ows := G.ows
  gens := G.gens
  inis := G.inis
  cls := G.cls
  clb := G.clb
  pass := G.pass
theorem Good.blkOk (G : Good c n C X N sc) {scope : Scope} {own : List (Str × Nat)} (h : blkC N sc scope own = true) : BlkOk X.N X.env.scope scope own := by
  have B := blkOk_by h
  rw [G.hN]
  refine ⟨B.kind, B.uniq, B.ix, fun y hy e => ?_, B.own⟩
  rcases B.free y hy e with q | q
  · rcases G.look _ _ q with w | ⟨w, _⟩
    · exact .inl w
    · cases w
  · rcases G.look _ _ q with w | ⟨_, w⟩
    · exact .inr w
    · exact .inl w
theorem lcOwn_snd (is : List Nat) : (lcOwn N is).map (·.2) = is := by
  unfold lcOwn
  rw [List.map_map]
  exact List.map_id is
theorem lcOwn_lt {scope : Scope} {is : List Nat} (h : blkC N sc scope (lcOwn N is) = true) : ∀ i ∈ is, i < N.length := fun i hi => by
  have B := blkOk_by h
  exact idx_lt (B.ix (N.getD i "", i) (List.mem_map.mpr ⟨i, hi, rfl⟩))
theorem tg_ok (G : Good c n C X N sc) : ∀ {it : It} {e : Expr}, chkTg N sc it e = true → PG X e (gOf X.K it)
  | .seq i _, e, h => by
    dsimp only [chkTg] at h
    split at h
    · rw [Bool.and_eq_true] at h
      exact pg_name (i := i) (by rw [G.hN]; exact G.nd) (by rw [G.hN]; exact nmAt_eq h.1) (G.loc (isL_of h.2)).1 (G.loc (isL_of h.2)).2
    · cases h
  | .rng i _, e, h => by
    dsimp only [chkTg] at h
    split at h
    · rw [Bool.and_eq_true] at h
      exact pg_name (i := i) (by rw [G.hN]; exact G.nd) (by rw [G.hN]; exact nmAt_eq h.1) (G.loc (isL_of h.2)).1 (G.loc (isL_of h.2)).2
    · cases h
  | .zip i j _ _, e, h => by
    dsimp only [chkTg] at h
    split at h
    · rw [Bool.and_eq_true, Bool.and_eq_true, Bool.and_eq_true] at h
      obtain ⟨⟨⟨h1, h2⟩, h3⟩, h4⟩ := h
      exact pg_tup G.calm (pgs_cons (pg_name (i := i) (by rw [G.hN]; exact G.nd) (by rw [G.hN]; exact nmAt_eq h1) (G.loc (isL_of h2)).1 (G.loc (isL_of h2)).2) (pgs_cons (pg_name (i := j) (by rw [G.hN]; exact G.nd) (by rw [G.hN]; exact nmAt_eq h3) (G.loc (isL_of h4)).1 (G.loc (isL_of h4)).2) pgs_nil))
    · cases h
theorem defAt_of {f : Nat} {x : Str} (h : defAt c f x = true) : ∃ d, c.tbl[f]? = some d ∧ d.name = x := by
  unfold defAt at h
  split at h
  · exact ⟨_, by assumption, eqS_eq h⟩
  · cases h
theorem kd_of : ∀ {ks : List Kd} {es : List Expr}, kdOk sc ks es = true → kdEs sc ks es
  | [], [], _ => rfl
  | [], _ :: _, h => by simp [kdOk] at h
  | k :: ks, [], h => by simp [kdOk] at h
  | k :: ks, e :: r, h => by
    cases e with
    | Name x p =>
      simp only [kdOk, Bool.and_eq_true] at h
      obtain ⟨⟨h1, h2⟩, h3⟩ := h
      have e := eqS_eq h1
      subst e
      exact ⟨p, r, rfl, isG_of h2, kd_of h3⟩
    | _ => simp [kdOk] at h
abbrev GΓ (c : Cfg) (n : Nat) : Gam := gam c.tbl n
abbrev Rd (c : Cfg) : Nat → Nat := rdT c.tbl
/-- any expression but a conditional: as a value, as a test -/
theorem isCls_of {D : Str} (h : isCls c D = true) : ∃ fl, (D, fl) ∈ c.cls := by
  unfold isCls at h
  obtain ⟨p, h1, h2⟩ := List.any_eq_true.mp h
  have := eqS_eq h2
  subst this
  exact ⟨p.2, h1⟩
theorem callOk_of {f : Nat} {bw nn : Bool} {d : Def} (hd : c.tbl[f]? = some d) (h : callOk c f bw nn = true) : (d.ini = none ∧ d.isG = false ∧ d.own = none) ∨ ∃ D fl, d.ini = some D ∧ (D, fl) ∈ c.cls ∧ bw = false ∧ nn = false := by
  unfold callOk at h
  simp only [hd] at h
  cases e : d.ini with
  | none =>
    rw [e] at h
    exact .inl ⟨rfl, by simpa using h⟩
  | some D =>
    rw [e] at h
    simp only [Bool.and_eq_true, Bool.not_eq_true'] at h
    obtain ⟨⟨h1, h2⟩, h3⟩ := h
    obtain ⟨fl, h4⟩ := isCls_of h3
    exact .inr ⟨D, fl, rfl, h4, h1, h2⟩
theorem ownOk_of {f p dp : Nat} {d : Def} (hd : c.tbl[f]? = some d) (h : ownOk c f p dp = true) : d.ini = none ∧ d.isG = false ∧ d.own = some (p, dp) := by
  unfold ownOk at h
  simp only [hd, Bool.and_eq_true, Bool.not_eq_true', Option.isNone_iff_eq_none] at h
  obtain ⟨⟨h1, h2⟩, h3⟩ := h
  cases e : d.own with
  | none => rw [e] at h3; cases h3
  | some q =>
    obtain ⟨p', dp'⟩ := q
    rw [e] at h3
    simp only [Bool.and_eq_true, decide_eq_true_eq] at h3
    obtain ⟨rfl, rfl⟩ := h3
    exact ⟨h1, h2, rfl⟩
theorem newOk_of {f : Nat} {d : Def} (hd : c.tbl[f]? = some d) (h : newOk c f = true) : d.ini = none ∧ d.isG = false ∧ d.own = none ∧ d.rd = 1 := by
  unfold newOk at h
  simp only [hd, Bool.and_eq_true, Bool.not_eq_true', Option.isNone_iff_eq_none, decide_eq_true_eq] at h
  exact ⟨h.1.1.1, h.1.1.2, h.1.2, h.2⟩
theorem base_of {o : Expr} {a : Str} {env : PySem.Env} {w : Sem Value} (h : ntSup o = true) : attributeBase o a env w = w := by
  cases o <;> first | rfl | cases h
def PET (c : Cfg) (n : Nat) (X : Cx) (e : Expr) (a : TE) : Prop := PE X e (trE (GΓ c n) (Rd c) X.K a) ∧ (ntI e = true → L2.PT X e (trT (GΓ c n) (Rd c) X.K a))
theorem AllTs (c : Cfg) (n : Nat) (X : Cx) : True := trivial
theorem kw_all {Γ : Gam} {rd : Nat → Nat} : ∀ {us : TEs} {ks : List Keyword} {l : List Str}, kwNames ks = some l → (∃ es : List Expr, es.length = us.len) → True := fun _ _ => trivial
end
section
variable {c : Cfg} {n : Nat} {C : CXT} {N : List Str}
/-- from a value's reading, where no test of its own is known -/
theorem pet_val {X : Cx} {e : Expr} {a : TE} (M : (GΓ c n).Mono) (h : PE X e (trE (GΓ c n) (Rd c) X.K a)) (hw : ntI e = true → ∀ whole, isTrue e X.env whole = (do let v ← whole; standAt e.pos; holding [v] (truthy v))) : PET c n X e a :=
  ⟨h, fun ht => t_val M h (hw ht)⟩
mutual
theorem chkE_ok : ∀ (a : TE) {X : Cx} {sc : Scope} {e : Expr}, Good c n C X N sc → chkE c N a sc e = true → PET c n X e a
  | .var i, X, sc, e, G, h => by
    unfold chkE at h
    split at h
    · rw [Bool.and_eq_true] at h
      obtain ⟨h1, h2, h3⟩ := (⟨h.1, isV_of h.2⟩ : _ ∧ _)
      exact pet_val (gam_mono _ _) (s_var (gam_mono _ _) G (nmAt_eq h1) h2 h3.1 h3.2) fun _ _ => rfl
    · cases h
  | .int i, X, sc, e, G, h => by
    unfold chkE at h
    split at h
    · have := of_decide_eq_true h
      subst this
      exact pet_val (gam_mono _ _) (s_int (gam_mono _ _)) fun _ _ => rfl
    · cases h
  | .bl i, X, sc, e, G, h => by
    unfold chkE at h
    split at h
    · have := of_decide_eq_true h
      subst this
      exact pet_val (gam_mono _ _) (s_bl (gam_mono _ _)) fun _ _ => rfl
    · cases h
  | .non, X, sc, e, G, h => by
    unfold chkE at h
    split at h
    · exact pet_val (gam_mono _ _) (s_non (gam_mono _ _)) fun _ _ => rfl
    · cases h
  | .str i, X, sc, e, G, h => by
    unfold chkE at h
    split at h
    · have := eqS_eq h
      subst this
      exact pet_val (gam_mono _ _) (s_str (gam_mono _ _)) fun _ _ => rfl
    · cases h
  | .tup ts, X, sc, e, G, h => by
    unfold chkE at h
    split at h
    · exact pet_val (gam_mono _ _) (s_tup (gam_mono _ _) (chkEs_ok ts G h).1) fun _ _ => rfl
    · cases h
  | .lst d ts, X, sc, e, G, h => by
    unfold chkE at h
    split at h
    · exact pet_val (gam_mono _ _) (s_lst (gam_mono _ _) (chkEs_ok ts G h).1) fun _ _ => rfl
    · cases h
  | .bin op a b, X, sc, e, G, h => by
    unfold chkE at h
    split at h
    · simp only [Bool.and_eq_true, decide_eq_true_eq] at h
      obtain ⟨⟨h1, h2⟩, h3⟩ := h
      subst h1
      exact pet_val (gam_mono _ _) (s_bin (gam_mono _ _) (chkE_ok a G h2).1 (chkE_ok b G h3).1) fun _ _ => rfl
    · cases h
  | .neg a, X, sc, e, G, h => by
    unfold chkE at h
    split at h
    · exact pet_val (gam_mono _ _) (s_neg (gam_mono _ _) (chkE_ok a G h).1) fun _ _ => rfl
    · cases h
  | .cmp op a b, X, sc, e, G, h => by
    unfold chkE at h
    split at h
    · simp only [Bool.and_eq_true, decide_eq_true_eq, Bool.not_eq_true'] at h
      obtain ⟨⟨⟨h1, h2⟩, h3⟩, h4⟩ := h
      subst h1
      exact ⟨s_cmp (gam_mono _ _) G.room.units h2 (chkE_ok a G h3).1 (chkE_ok b G h4).1, fun _ => t_cmp (gam_mono _ _) G.room.units h2 (chkE_ok a G h3).1 (chkE_ok b G h4).1⟩
    · cases h
  | .bop and a ts, X, sc, e, G, h => by
    unfold chkE at h
    split at h
    · simp only [Bool.and_eq_true, decide_eq_true_eq] at h
      obtain ⟨⟨⟨h1, h2⟩, h3⟩, h4⟩ := h
      subst h1
      have p := chkE_ok a G h3
      have q := chkTs_ok ts G h4
      exact ⟨s_bop (gam_mono _ _) and p.1 q.1, fun _ => (t_bop (gam_mono _ _) and (p.2 h2) q.2).pt⟩
    · cases h
  | .not a, X, sc, e, G, h => by
    unfold chkE at h
    split at h
    · simp only [Bool.and_eq_true] at h
      have p := chkE_ok a G h.2
      exact ⟨s_not (gam_mono _ _) p.1, fun _ => t_not (gam_mono _ _) (p.2 h.1)⟩
    · cases h
  | .ife t a b, X, sc, e, G, h => by
    unfold chkE at h
    split at h
    · simp only [Bool.and_eq_true] at h
      obtain ⟨⟨⟨h1, h2⟩, h3⟩, h4⟩ := h
      exact ⟨s_ife (gam_mono _ _) ((chkE_ok t G h2).2 h1) (chkE_ok a G h3).1 (chkE_ok b G h4).1, fun hh => by cases hh⟩
    · cases h
  | .idx a i, X, sc, e, G, h => by
    unfold chkE at h
    split at h
    · simp only [Bool.and_eq_true] at h
      obtain ⟨⟨h1, h2⟩, h3⟩ := h
      exact pet_val (gam_mono _ _) (s_idx (gam_mono _ _) h1 (chkE_ok a G h2).1 (chkE_ok i G h3).1) fun _ _ => rfl
    · cases h
  | .slc a lo hi, X, sc, e, G, h => by
    unfold chkE at h
    split at h
    · simp only [Bool.and_eq_true] at h
      obtain ⟨⟨h1, h2⟩, h3⟩ := h
      exact pet_val (gam_mono _ _) (s_slc (gam_mono _ _) (chkE_ok a G h1).1 (chkO_ok lo G h2) (chkO_ok hi G h3)) fun _ _ => rfl
    · cases h
  | .call f bw dv ts, X, sc, e, G, h => by
    unfold chkE at h
    split at h
    · simp only [Bool.and_eq_true] at h
      obtain ⟨⟨⟨⟨⟨h1, h2⟩, h3⟩, h4⟩, hci⟩, h5⟩ := h
      obtain ⟨d, hd, e⟩ := defAt_of h1
      subst e
      replace hci := callOk_of hd hci
      have e : dv = [] := by simpa using h4
      subst e
      have q := chkEs_ok ts G h5
      refine pet_val (gam_mono _ _) ?_ fun _ _ => rfl
      rename_i es _
      cases es with
      | nil =>
        have e : ts = .nil := by
          cases ts with
          | nil => rfl
          | cons a r => unfold chkEs at h5; cases h5
        subst e
        rcases hci with ⟨hci, hng, hno⟩ | ⟨_, _, _, _, _, z⟩
        · exact s_call0 (gam_mono _ _) G rfl rfl hd hci hng hno (isG_of h2) (plain_of h3).1
        · cases z
      | cons a r =>
        rcases hci with ⟨hci, hng, hno⟩ | ⟨D, fl, k1, k2, k3, _⟩
        · exact s_call (gam_mono _ _) G rfl rfl hd hci hng hno (isG_of h2) (plain_of h3).1 q.2 q.1
        · subst k3
          exact s_make (gam_mono _ _) G rfl rfl hd k1 k2 (isG_of h2) (plain_of h3).1 q.2 q.1
    · cases h
  | .callO f p dp ts, X, sc, e, G, h => by
    unfold chkE at h
    split at h
    · simp only [Bool.and_eq_true] at h
      obtain ⟨⟨⟨⟨h1, h2⟩, h3⟩, h4⟩, h5⟩ := h
      obtain ⟨d, hd, e⟩ := defAt_of h1
      subst e
      obtain ⟨k1, k2, k3⟩ := ownOk_of hd h4
      have q := chkEs_ok ts G h5
      refine pet_val (gam_mono _ _) ?_ fun _ _ => rfl
      exact s_callO (gam_mono _ _) G rfl rfl hd k1 k2 k3 (isG_of h2) (plain_of h3).1 q.2 q.1
    · cases h
  | .callB f ts, X, sc, e, G, h => by
    unfold chkE at h
    split at h
    · simp only [Bool.and_eq_true] at h
      obtain ⟨⟨⟨⟨h1, h2⟩, h3⟩, h4⟩, h5⟩ := h
      obtain ⟨d, hd, e⟩ := defAt_of h1
      subst e
      obtain ⟨k1, k2, k3, k4⟩ := newOk_of hd h4
      have q := chkEs_ok ts G h5
      refine pet_val (gam_mono _ _) ?_ fun _ _ => rfl
      exact s_callB (gam_mono _ _) G rfl rfl hd k1 k2 k3 k4 (isG_of h2) (plain_of h3).1 q.2 q.1
    · cases h
  | .callK f bw ord ts us, X, sc, e, G, h => by
    unfold chkE at h
    split at h
    · simp only [Bool.and_eq_true, List.any_eq_true, decide_eq_true_eq] at h
      obtain ⟨⟨⟨⟨⟨⟨⟨h1, h2⟩, h3⟩, hci⟩, hbw0⟩, k, hk, ⟨⟨⟨e1, e2⟩, e3⟩, e4⟩, e5⟩, h5⟩, h6⟩ := h
      obtain ⟨d, hd, e⟩ := defAt_of h1
      replace hci := callOk_of hd hci
      subst e e1 e2
      have q := chkEs_ok ts G h5
      have q2 := chkK_ok us G h6 e5
      refine pet_val (gam_mono _ _) ?_ fun _ _ => rfl
      rename_i es _ _ _
      have hbw : bw = true → ts = .nil := fun z => by
        rw [z] at hbw0
        cases ts with
        | nil => rfl
        | cons a r => simp [TEs.len] at hbw0
      cases es with
      | nil =>
        have e : ts = .nil := by
          cases ts with
          | nil => rfl
          | cons a r => unfold chkEs at h5; cases h5
        subst e
        rcases hci with ⟨hci, hng, hno⟩ | ⟨D, fl, k1, k2, k3, _⟩
        · exact s_callK0 (gam_mono _ _) G rfl rfl hk hd hci hng hno (isG_of h2) (plain_of h3).1 e3.symm e4 q2
        · subst k3
          exact s_makeK0 (gam_mono _ _) G rfl rfl hk hd k1 k2 (isG_of h2) (plain_of h3).1 e3.symm e4 q2
      | cons a r =>
        rcases hci with ⟨hci, hng, hno⟩ | ⟨D, fl, k1, k2, k3, _⟩
        · exact s_callK (gam_mono _ _) G rfl rfl hk hd hci hng hno (isG_of h2) (plain_of h3).1 e3.symm e4 hbw q.2 q.1 q2
        · subst k3
          exact s_makeK (gam_mono _ _) G rfl rfl hk hd k1 k2 (isG_of h2) (plain_of h3).1 e3.symm e4 q.2 q.1 q2
    · cases h
  | .blt f ts, X, sc, e, G, h => by
    unfold chkE at h
    split at h
    · simp only [Bool.and_eq_true] at h
      obtain ⟨⟨h1, h2⟩, h3⟩ := h
      have e := eqS_eq h1
      subst e
      have q := chkEs_ok ts G h3
      exact pet_val (gam_mono _ _) (s_blt (gam_mono _ _) G f (isG_of h2) q.2 q.1) fun _ _ => rfl
    · cases h
  | .gcd a b, X, sc, e, G, h => by
    unfold chkE at h
    split at h
    · simp only [Bool.and_eq_true] at h
      obtain ⟨⟨⟨⟨⟨⟨h1, h2⟩, h3⟩, h4⟩, h5⟩, h6⟩, h7⟩ := h
      have e := eqS_eq h1
      subst e
      exact pet_val (gam_mono _ _) (s_gcd (gam_mono _ _) G h2 (isG_of h3) (by unfold Plain; rw [List.all_cons, List.all_cons, h4, h5]; rfl) (chkE_ok a G h6).1 (chkE_ok b G h7).1) fun _ _ => rfl
    · cases h
  | .isin a ks, X, sc, e, G, h => by
    unfold chkE at h
    split at h
    · simp only [Bool.and_eq_true, decide_eq_true_eq] at h
      obtain ⟨⟨⟨⟨⟨h1, h2⟩, h3⟩, h4⟩, h5⟩, h6⟩ := h
      have e := eqS_eq h1
      subst e
      exact pet_val (gam_mono _ _) (s_isinT (gam_mono _ _) G ks (isG_of h2) (kd_of h4) h5 h3 (chkE_ok a G h6).1) fun _ _ => rfl
    · simp only [Bool.and_eq_true] at h
      obtain ⟨⟨⟨⟨h1, h2⟩, h3⟩, h4⟩, h5⟩ := h
      have e := eqS_eq h1
      subst e
      split at h4
      · rename_i k
        rw [Bool.and_eq_true] at h4
        have e := eqS_eq h4.1
        subst e
        exact pet_val (gam_mono _ _) (s_isin1 (gam_mono _ _) G k (isG_of h2) (isG_of h4.2) h3 (chkE_ok a G h5).1) fun _ _ => rfl
      · cases h4
    · cases h
  | .isc a D oth, X, sc, e, G, h => by
    unfold chkE at h
    split at h
    · simp only [Bool.and_eq_true] at h
      obtain ⟨⟨⟨⟨⟨⟨⟨⟨h1, h2⟩, h3⟩, h4⟩, h5⟩, h6⟩, h7⟩, h8⟩, h9⟩ := h
      have e := eqS_eq h1
      subst e
      have e := eqS_eq h4
      subst e
      obtain ⟨fl, hfl⟩ := isCls_of h7
      exact pet_val (gam_mono _ _) (s_isc (gam_mono _ _) G hfl (fun C hC => isCls_of (List.all_eq_true.mp h8 C hC)) (isG_of h2) (isG_of h5) (plain_of h6).1 h3 (chkE_ok a G h9).1) fun _ _ => rfl
    · cases h
  | .fld a f, X, sc, e, G, h => by
    unfold chkE at h
    split at h
    · simp only [Bool.and_eq_true] at h
      obtain ⟨⟨h1, h2⟩, h3⟩ := h
      have e := eqS_eq h1
      subst e
      exact pet_val (gam_mono _ _) (s_fld (gam_mono _ _) (chkE_ok a G h3).1 (base_of h2)) fun _ _ => rfl
    · cases h
  | .fldS i f, X, sc, e, G, h => by
    unfold chkE at h
    split at h
    · simp only [Bool.and_eq_true] at h
      obtain ⟨⟨h1, h2⟩, h3⟩ := h
      have e := eqS_eq h1
      subst e
      have v := isV_of h3
      exact pet_val (gam_mono _ _) (s_fldS (gam_mono _ _) G (nmAt_eq h2) v.1 v.2.1 v.2.2 (base_of rfl)) fun _ _ => rfl
    · cases h
  | .lrng ts, X, sc, e, G, h => by
    unfold chkE at h
    split at h
    · simp only [Bool.and_eq_true, Bool.or_eq_true, decide_eq_true_eq] at h
      obtain ⟨⟨⟨⟨⟨h1, h2⟩, h3⟩, h4⟩, h5⟩, h6⟩ := h
      have e := eqS_eq h1
      subst e
      have e := eqS_eq h3
      subst e
      refine pet_val (gam_mono _ _) ?_ fun _ _ => rfl
      cases ts with
      | nil => rcases h5 with h5 | h5 <;> cases h5
      | cons a ts =>
        unfold chkEs at h6
        split at h6
        · simp only [Bool.and_eq_true] at h6
          obtain ⟨⟨k1, k2⟩, k3⟩ := h6
          cases ts with
          | nil =>
            unfold chkEs at k3
            split at k3
            · exact s_lrng1 (gam_mono _ _) G (isG_of h2) (isG_of h4) k1 (chkE_ok a G k2).1
            · cases k3
          | cons b ts =>
            unfold chkEs at k3
            split at k3
            · simp only [Bool.and_eq_true] at k3
              obtain ⟨⟨k4, k5⟩, k6⟩ := k3
              cases ts with
              | nil =>
                unfold chkEs at k6
                split at k6
                · exact s_lrng2 (gam_mono _ _) G (isG_of h2) (isG_of h4) k1 k4 (chkE_ok a G k2).1 (chkE_ok b G k5).1
                · cases k6
              | cons d ts =>
                exfalso
                simp only [TEs.len] at h5
                omega
            · cases k3
        · cases h6
    · cases h
  | .lc d it cs a, X, sc, e, G, h => by
    unfold chkE at h
    split at h
    · simp only [Bool.and_eq_true] at h
      obtain ⟨⟨⟨⟨⟨h1, h2⟩, h3⟩, h4⟩, h5⟩, h6⟩ := h
      refine pet_val (gam_mono _ _) ?_ fun _ _ => rfl
      exact s_lc (gam_mono _ _) G (G.blkOk h1) (lcOwn_snd _) (lcOwn_lt h1) (fun I => by rw [I.len, G.hN]) (chkI_ok it G h3 _ h4).1 (fun s H A cl fp => tg_ok (G.blk s H A cl fp) h4) (fun s H A cl fp => chkC_ok cs (G.blk s H A cl fp) h5) (fun s H A cl fp => (chkE_ok a (G.blk s H A cl fp) h6).1) (fset h2 _)
    · cases h
  | .lc2 d it it2 cs cs2 a, X, sc, e, G, h => by
    unfold chkE at h
    split at h
    · simp only [Bool.and_eq_true] at h
      obtain ⟨⟨⟨⟨⟨⟨⟨⟨⟨h1, h2⟩, h2'⟩, h3⟩, h4⟩, h5⟩, h3'⟩, h4'⟩, h5'⟩, h6⟩ := h
      refine pet_val (gam_mono _ _) ?_ fun _ _ => rfl
      exact s_lc2 (gam_mono _ _) G (G.blkOk h1) (lcOwn_snd _) (lcOwn_lt h1) (fun I => by rw [I.len, G.hN]) (chkI_ok it G h3 _ h4).1 (fun s H A cl fp => tg_ok (G.blk s H A cl fp) h4) (fun s H A cl fp => chkC_ok cs (G.blk s H A cl fp) h5) (fun s H A cl fp => (chkI_ok it2 (G.blk s H A cl fp) h3' _ h4').1) (fun s H A cl fp => tg_ok (G.blk s H A cl fp) h4') (fun s H A cl fp => chkC_ok cs2 (G.blk s H A cl fp) h5') (fun s H A cl fp => (chkE_ok a (G.blk s H A cl fp) h6).1) (fset h2 _) (fset h2')
    · cases h
theorem chkO_ok : ∀ (a : TO) {X : Cx} {sc : Scope} {e : Option Expr}, Good c n C X N sc → chkO c N a sc e = true → PO X e (trO (GΓ c n) (Rd c) X.K a)
  | .none, X, sc, e, G, h => by
    unfold chkO at h
    split at h
    · exact s_onone
    · cases h
  | .some a, X, sc, e, G, h => by
    unfold chkO at h
    split at h
    · exact s_osome (gam_mono _ _) (chkE_ok a G h).1
    · cases h
theorem chkEs_ok : ∀ (a : TEs) {X : Cx} {sc : Scope} {e : List Expr}, Good c n C X N sc → chkEs c N a sc e = true → PA X e (trA (GΓ c n) (Rd c) X.K a) ∧ Plain e
  | .nil, X, sc, e, G, h => by
    unfold chkEs at h
    split at h
    · exact ⟨s_nil, rfl⟩
    · cases h
  | .cons a ts, X, sc, e, G, h => by
    unfold chkEs at h
    split at h
    · simp only [Bool.and_eq_true] at h
      obtain ⟨⟨h1, h2⟩, h3⟩ := h
      have q := chkEs_ok ts G h3
      exact ⟨s_cons (gam_mono _ _) h1 (chkE_ok a G h2).1 q.1, by unfold Plain; rw [List.all_cons, h1]; exact q.2⟩
    · cases h
theorem chkTs_ok : ∀ (a : TEs) {X : Cx} {sc : Scope} {e : List Expr}, Good c n C X N sc → chkTs c N a sc e = true → Alls (GΓ c n) (Rd c) X a e ∧ AllT (GΓ c n) (Rd c) X a e
  | .nil, X, sc, e, G, h => by
    unfold chkTs at h
    split at h
    · exact ⟨rfl, rfl⟩
    · cases h
  | .cons a ts, X, sc, e, G, h => by
    unfold chkTs at h
    split at h
    · simp only [Bool.and_eq_true] at h
      obtain ⟨⟨h1, h2⟩, h3⟩ := h
      have p := chkE_ok a G h2
      have q := chkTs_ok ts G h3
      exact ⟨⟨_, _, rfl, p.1, q.1⟩, ⟨_, _, rfl, p.2 h1, q.2⟩⟩
    · cases h
theorem chkK_ok : ∀ (a : TEs) {X : Cx} {sc : Scope} {e : List Keyword} {l : List Str}, Good c n C X N sc → chkK c N a sc e = true → kwNames e = some l → AllK (GΓ c n) (Rd c) X a l e
  | .nil, X, sc, e, l, G, h, hk => by
    unfold chkK at h
    split at h
    · exact ⟨(Option.some.inj hk).symm, rfl⟩
    · cases h
  | .cons a ts, X, sc, e, l, G, h, hk => by
    unfold chkK at h
    split at h
    · simp only [Bool.and_eq_true] at h
      rename_i x e' p r
      unfold kwNames at hk
      split at hk
      · rename_i l' e2
        have e3 := (Option.some.inj hk).symm
        subst e3
        exact ⟨x, l', e', p, r, rfl, rfl, (chkE_ok a G h.1).1, chkK_ok ts G h.2 e2⟩
      · cases hk
    · cases h
theorem chkC_ok : ∀ (a : TEs) {X : Cx} {sc : Scope} {e : List Expr}, Good c n C X N sc → chkC c N a sc e = true → PTs X e (trC (GΓ c n) (Rd c) X.K a)
  | .nil, X, sc, e, G, h => by
    unfold chkC at h
    split at h
    · refine ⟨fun pins s σ H Q I q => pts_nil.run pins s σ H Q I ?_⟩
      obtain ⟨pn, He, H0e, H0, env, fps, S, q⟩ := q
      unfold wpC at q
      exact q H0 H (Ext.refl S.le)
    · cases h
  | .cons a ts, X, sc, e, G, h => by
    unfold chkC at h
    split at h
    · simp only [Bool.and_eq_true] at h
      refine ⟨fun pins s σ H Q I q => (pts_one ((chkE_ok a G h.1.2).2 h.1.1)).run pins s σ H Q I ?_⟩
      obtain ⟨pn, He, H0e, H0, env, fps, S, q⟩ := q
      unfold wpC at q
      exact ⟨pn, He, H0e, H0, env, fps, S, q⟩
    · cases h
theorem chkI_ok : ∀ (a : It) {X : Cx} {sc : Scope} {e : Expr}, Good c n C X N sc → chkI c N a sc e = true → ∀ (tg : Expr) {scope : Scope}, chkTg N scope a tg = true → PI X tg e (trI (GΓ c n) (Rd c) X.K a) ∧ PI X tg e (trIS (GΓ c n) (Rd c) X.K a)
  | .seq i a, X, sc, e, G, h, tg, scope, ht => by
    unfold chkI at h
    have p := chkE_ok a G h
    exact ⟨i_seq (gam_mono _ _) p.1, is_seq (gam_mono _ _) p.1⟩
  | .rng i ts, X, sc, e, G, h, tg, scope, ht => by
    unfold chkI at h
    split at h
    · simp only [Bool.and_eq_true, Bool.or_eq_true, decide_eq_true_eq] at h
      obtain ⟨⟨⟨h1, h2⟩, h3⟩, h4⟩ := h
      have e := eqS_eq h1
      subst e
      have q := chkEs_ok ts G h4
      rename_i x y es pos
      have hl : es.length = ts.len := by
        have key : ∀ (ts : TEs) (es : List Expr), chkEs c N ts sc es = true → es.length = ts.len := by
          intro ts
          induction ts using TEs.rec (motive_1 := fun _ => True) (motive_2 := fun _ => True) (motive_4 := fun _ => True) with
          | nil => intro es h; unfold chkEs at h; split at h; rfl; cases h
          | cons a r _ ih => intro es h; unfold chkEs at h; split at h; (simp only [Bool.and_eq_true] at h; rw [List.length_cons, ih _ h.2]; rfl); cases h
          | _ => trivial
        exact key ts es h4
      match es, hl, q with
      | [a], hl, q =>
        have hp : nst a = true := by have := q.2; unfold Plain at this; simpa using this
        exact i_rng1 (gam_mono _ _) G (isG_of h2) hp q.1 hl.symm
      | [a, b], hl, q =>
        have hp : nst a = true ∧ nst b = true := by have := q.2; unfold Plain at this; simpa using this
        exact i_rng2 (gam_mono _ _) G (isG_of h2) hp.1 hp.2 q.1 hl.symm
      | [], hl, q => exfalso; simp at hl; omega
      | _ :: _ :: _ :: _, hl, q => exfalso; simp at hl; omega
    · cases h
  | .zip i j a b, X, sc, e, G, h, tg, scope, ht => by
    unfold chkI at h
    split at h
    · simp only [Bool.and_eq_true] at h
      obtain ⟨⟨⟨⟨⟨h1, h2⟩, h3⟩, h4⟩, h5⟩, h6⟩ := h
      have e := eqS_eq h1
      subst e
      dsimp only [chkTg] at ht
      split at ht
      · exact i_zip (gam_mono _ _) G (isG_of h2) h3 h4 (chkE_ok a G h5).1 (chkE_ok b G h6).1
      · cases ht
    · cases h
end
end
end PT

namespace PT
open PySem PySem.Spec PyProof.Rows L2
section
variable {c : Cfg} {n : Nat} {C : CXT} {N : List Str} {X : Cx} {sc : Scope}
theorem chkL_ok (G : Good c n C X N sc) {i : Nat} : ∀ (ts : TEs) {e : Expr}, chkL c N sc i ts e = true → PE X e (trL (GΓ c n) (Rd c) X.K i ts)
  | .nil, e, h => by
    unfold chkL at h
    split at h
    · rw [Bool.and_eq_true] at h
      obtain ⟨h1, h2, h3⟩ := (⟨h.1, isV_of h.2⟩ : _ ∧ _)
      exact l_nil (gam_mono _ _) G (nmAt_eq h1) h2 h3.1 h3.2
    · cases h
  | .cons a ts, e, h => by
    unfold chkL at h
    split at h
    · simp only [Bool.and_eq_true] at h
      obtain ⟨⟨h1, h2⟩, h3⟩ := h
      exact l_cons (gam_mono _ _) h1 (chkL_ok G ts h2) (chkE_ok a G h3).1
    · cases h
theorem nms_ok : ∀ {is : List Nat} {es : List Expr}, nmsOk N sc is es = true → nmEs N sc is es
  | [], es, h => by
    unfold nmsOk at h
    exact List.isEmpty_iff.mp h
  | i :: is, es, h => by
    unfold nmsOk at h
    split at h
    · simp only [Bool.and_eq_true] at h
      obtain ⟨⟨h1, h2⟩, h3⟩ := h
      exact ⟨_, _, _, rfl, nmAt_eq h1, isL_of h2, nms_ok h3⟩
    · cases h
theorem sw_nt {e : Expr} {t : Option Expr} {l : Nat} {env : PySem.Env} (h : ntCmp e = true) : swapsWith e t l env = pure false := by
  cases e <;> first | rfl | cases h
theorem chkL_nt {i : Nat} {ts : TEs} {e : Expr} (h : chkL c N sc i ts e = true) : ntCmp e = true ∧ ntSup e = true := by
  cases ts with
  | nil =>
    unfold chkL at h
    split at h
    · exact ⟨rfl, rfl⟩
    · cases h
  | cons a ts =>
    unfold chkL at h
    split at h
    · exact ⟨rfl, rfl⟩
    · cases h
theorem swst_nt {ts : List Expr} {m : Nat} {p : Pos} {e : Expr} {env : PySem.Env} (h : ntTup e = true) : swappedStores [.Tuple ts m p] e env = pure none := by
  cases e <;> first | rfl | cases h
theorem swst_sub {o x : Expr} {p : Pos} {e : Expr} {env : PySem.Env} : swappedStores [.Subscript o x p] e env = pure none := by
  rfl
theorem sws_sub {o x e : Expr} {p : Pos} {l : Nat} {env : PySem.Env} : swapsWithSole [.Subscript o x p] e l env = pure false := by
  show swapsWith e (some (.Subscript o x p)) l env = pure false
  cases e <;> rfl
theorem sw_cell {elt : Expr} {gs : List Comprehension} {scope : Scope} {pos py : Pos} {y : Str} {l : Nat} {env : PySem.Env} (hy : env.scope.names.lookup y = some .cell) : swapsWith (.ListComp elt gs scope pos) (some (.Name y py)) l env = pure false := by
  have ky : env.kindOf y = some .cell := hy
  unfold swapsWith
  simp only [ky]
  have e : (some NameKind.cell == some NameKind.local) = false := rfl
  simp only [e, Bool.and_false, Bool.false_and]
theorem sws_nt {e t : Expr} {l : Nat} {env : PySem.Env} (h : ntCmp e = true) : swapsWithSole [t] e l env = pure false := by
  show swapsWith e (some t) l env = pure false
  exact sw_nt h
/-- a def's own frame -/
structure GoodS (c : Cfg) (n : Nat) (C : CXT) (X : Cx) (N : List Str) (sc : Scope) : Prop where
  g : Good c n C X N sc
  scp : X.env.scope = sc
  kind : sc.kind = .function
  pass : PassesOwn (model X.prog X.w) X.A X.env X.xe
  never : X.xe = fun _ _ => False
  stk : X.stack = X.env :: X.outer
  frm : X.env.frame = some X.env.locals
mutual
theorem chkS_ok (G : GoodS c n C X N sc) : ∀ (s : TS) {st : Stmt}, chkS c N sc s st = true → PS X st (trS (GΓ c n) (Rd c) X.K s)
  | .asg i own a, st, h => by
    unfold chkS at h
    split at h
    · simp only [Bool.and_eq_true, Bool.or_eq_true] at h
      obtain ⟨⟨⟨h1, h2⟩, h3⟩, h4⟩ := h
      rcases h4 with (h4 | h4) | h4
      · exact ss_asg (gam_mono _ _) G.g (nmAt_eq h1) (isL_of h2) (chkE_ok a G.g h3).1 (sw_nt h4)
      · unfold swNo at h4
        split at h4
        · have kc := of_decide_eq_true h4
          rw [← G.scp] at kc
          refine ss_asg (gam_mono _ _) G.g (nmAt_eq h1) (isL_of h2) (chkE_ok a G.g h3).1 ?_
          exact sw_cell kc
        · cases h4
      · unfold swLc at h4
        split at h4
        · simp only [Bool.and_eq_true, decide_eq_true_eq, Bool.not_eq_true'] at h4
          obtain ⟨⟨k1, k2⟩, k3⟩ := h4
          have kl := k1
          rw [← G.scp] at kl
          have kk : X.env.scope.kind = .function := by rw [G.scp]; exact G.kind
          cases a with
          | lc d it cs a =>
            unfold chkE at h3
            split at h3
            · rename_i hx
              cases hx
              simp only [Bool.and_eq_true] at h3
              obtain ⟨⟨⟨⟨⟨h1', h2'⟩, h3'⟩, h4'⟩, h5'⟩, h6'⟩ := h3
              exact ss_asgLc (gam_mono _ _) G.g (nmAt_eq h1) kl (sw_true kk kl k2 k3) (G.g.blkOk h1') (lcOwn_snd _) (lcOwn_lt h1') (chkI_ok it G.g h3' _ h4').1 (fun s H A cl fp => tg_ok (G.g.blk s H A cl fp) h4') (fun s H A cl fp => chkC_ok cs (G.g.blk s H A cl fp) h5') (fun s H A cl fp => (chkE_ok a (G.g.blk s H A cl fp) h6').1) (fset h2' _)
            · cases h3
          | lc2 d it it2 cs cs2 a =>
            unfold chkE at h3
            split at h3
            · rename_i hx
              cases hx
              simp only [Bool.and_eq_true] at h3
              obtain ⟨⟨⟨⟨⟨⟨⟨⟨⟨h1', h2'⟩, h2''⟩, h3'⟩, h4'⟩, h5'⟩, h3''⟩, h4''⟩, h5''⟩, h6'⟩ := h3
              exact ss_asgLc2 (gam_mono _ _) G.g (nmAt_eq h1) kl (sw_true kk kl k2 k3) (G.g.blkOk h1') (lcOwn_snd _) (lcOwn_lt h1') (chkI_ok it G.g h3' _ h4').1 (fun s H A cl fp => tg_ok (G.g.blk s H A cl fp) h4') (fun s H A cl fp => chkC_ok cs (G.g.blk s H A cl fp) h5') (fun s H A cl fp => (chkI_ok it2 (G.g.blk s H A cl fp) h3'' _ h4'').1) (fun s H A cl fp => tg_ok (G.g.blk s H A cl fp) h4'') (fun s H A cl fp => chkC_ok cs2 (G.g.blk s H A cl fp) h5'') (fun s H A cl fp => (chkE_ok a (G.g.blk s H A cl fp) h6').1) (fset h2' _) (fset h2'')
            · cases h3
          | _ =>
            unfold chkE at h3
            first
              | (split at h3 <;> first | (rename_i hx; cases hx; done) | cases h3)
              | cases h3
        · cases h4
    · cases h
  | .ali i j ts, st, h => by
    unfold chkS at h
    split at h
    · simp only [Bool.and_eq_true] at h
      obtain ⟨⟨h1, h2⟩, h3⟩ := h
      exact ss_ali (gam_mono _ _) G.g (nmAt_eq h1) (isL_of h2) (chkL_ok G.g ts h3) (sw_nt (chkL_nt h3).1)
    · cases h
  | .unp is a, st, h => by
    unfold chkS at h
    split at h
    · simp only [Bool.and_eq_true] at h
      obtain ⟨⟨⟨h1, h2⟩, h3⟩, h4⟩ := h
      exact ss_unp (gam_mono _ _) G.g (nms_ok h1) (chkE_ok a G.g h2).1 (sws_nt h4) (swst_nt h3)
    · cases h
  | .app i ts a, st, h => by
    unfold chkS at h
    split at h
    · simp only [Bool.and_eq_true] at h
      obtain ⟨⟨⟨⟨⟨h1, h2⟩, h3⟩, h4⟩, h5⟩, h6⟩ := h
      have e := eqS_eq h1
      subst e
      exact ss_app (gam_mono _ _) (chkL_ok G.g ts h5) (chkE_ok a G.g h6).1 h4 (base_of h3) h2
    · cases h
  | .appMv i ts j, st, h => by
    unfold chkS at h
    split at h
    · simp only [Bool.and_eq_true] at h
      obtain ⟨⟨⟨⟨⟨h1, h2⟩, h3⟩, h4⟩, h5⟩, h6⟩ := h
      have e := eqS_eq h1
      subst e
      have v := isV_of h5
      exact ss_mv (gam_mono _ _) G.g (chkL_ok G.g ts h6) (nmAt_eq h4) v.1 v.2.1 v.2.2 (base_of h3) h2
    · cases h
  | .sto i ts k a, st, h => by
    unfold chkS at h
    split at h
    · simp only [Bool.and_eq_true] at h
      obtain ⟨⟨⟨h1, h3⟩, h4⟩, h5⟩ := h
      exact ss_sto (gam_mono _ _) (chkL_ok G.g ts h3) (chkE_ok k G.g h4).1 (chkE_ok a G.g h5).1 h1 sws_sub swst_sub
    · cases h
  | .frz i, st, h => by
    unfold chkS at h
    cases h
  | .yld a, st, h => by
    unfold chkS at h
    cases h
  | .forG i f ts b, st, h => by
    unfold chkS at h
    split at h
    · rename_i es _ _ _
      simp only [Bool.and_eq_true, Bool.not_eq_true'] at h
      obtain ⟨⟨⟨⟨⟨⟨⟨⟨h1, h2⟩, h3⟩, h4⟩, h5⟩, h6⟩, h7⟩, h8⟩, h9⟩ := h
      obtain ⟨d, hd, e⟩ := defAt_of h3
      subst e
      have h4 : d.ini.isNone = true ∧ d.isG = true := by
        unfold genOk at h4
        simp only [hd, Bool.and_eq_true] at h4
        exact h4
      have q := chkEs_ok ts G.g h8
      cases es with
      | nil => cases h7
      | cons a r => exact ss_forG (gam_mono _ _) rfl G.g G.never G.stk G.frm G.pass hd (Option.isNone_iff_eq_none.mp h4.1) h4.2 (nmAt_eq h1) (isL_of h2) (isG_of h5) (plain_of h6).1 q.2 q.1 (chkSs_ok G b h9)
    · cases h
  | .ex a, st, h => by
    unfold chkS at h
    split at h
    · rw [Bool.and_eq_true] at h
      exact ss_ex (gam_mono _ _) (chkE_ok a G.g h.2).1 (sw_nt h.1)
    · cases h
  | .ite t a b, st, h => by
    unfold chkS at h
    split at h
    · simp only [Bool.and_eq_true] at h
      obtain ⟨⟨⟨h1, h2⟩, h3⟩, h4⟩ := h
      exact ss_ite (gam_mono _ _) ((chkE_ok t G.g h2).2 h1) (chkSs_ok G a h3) (chkSs_ok G b h4)
    · cases h
  | .whl t b, st, h => by
    unfold chkS at h
    split at h
    · simp only [Bool.and_eq_true] at h
      obtain ⟨⟨h1, h2⟩, h3⟩ := h
      exact ss_whl (gam_mono _ _) G.pass ((chkE_ok t G.g h2).2 h1) (chkSs_ok G b h3)
    · cases h
  | .for_ it b, st, h => by
    unfold chkS at h
    split at h
    · simp only [Bool.and_eq_true] at h
      obtain ⟨⟨⟨h1, h2⟩, h3⟩, h4⟩ := h
      exact ss_for (gam_mono _ _) G.g G.pass (chkI_ok it G.g h2 _ h3).2 (tg_ok G.g h3) (chkSs_ok G b h4) (fset h1 _)
    · cases h
  | .forO i j b, st, h => by
    unfold chkS at h
    split at h
    · simp only [Bool.and_eq_true, decide_eq_true_eq] at h
      obtain ⟨⟨⟨⟨⟨h1, h2⟩, h3⟩, h4⟩, h5⟩, h6⟩ := h
      have v := isV_of h4
      exact ss_forO (gam_mono _ _) G.g G.pass (nmAt_eq h1) (isL_of h2) (nmAt_eq h3) v.1 v.2.1 v.2.2 (chkSs_ok G b h6) h5
    · cases h
  | .forD i j ts b, st, h => by
    unfold chkS at h
    split at h
    · simp only [Bool.and_eq_true] at h
      obtain ⟨⟨⟨⟨h1, h2⟩, h3⟩, h4⟩, h5⟩ := h
      exact ss_forD (gam_mono _ _) G.g G.pass (nmAt_eq h2) (isL_of h3) (chkL_ok G.g ts h4) (chkSs_ok G b h5) (fset h1 _)
    · cases h
  | .ret a, st, h => by
    unfold chkS at h
    split at h
    · exact ss_ret (gam_mono _ _) (chkE_ok a G.g h).1
    · cases h
  | .retV i, st, h => by
    unfold chkS at h
    split at h
    · rw [Bool.and_eq_true] at h
      have v := isV_of h.2
      exact ss_retV G.g (nmAt_eq h.1) v.1 v.2.1 v.2.2
    · cases h
  | .retN, st, h => by
    unfold chkS at h
    split at h
    · exact ss_retN
    · cases h
  | .brk, st, h => by
    unfold chkS at h
    split at h
    · exact ss_brk
    · cases h
  | .cnt, st, h => by
    unfold chkS at h
    split at h
    · exact ss_cnt
    · cases h
  | .pas, st, h => by
    unfold chkS at h
    split at h
    · exact ss_pas
    · exact ss_doc
    · cases h
  | .rse, st, h => ss_rse
  | .fgt is, st, h => by
    unfold chkS at h
    cases h
  | .fst i D f a, st, h => by
    unfold chkS at h
    split at h
    · simp only [Bool.and_eq_true] at h
      obtain ⟨⟨⟨⟨⟨h1, h2⟩, h3⟩, h4⟩, h5⟩, h6⟩ := h
      have e := eqS_eq h1
      subst e
      have v := isV_of h3
      obtain ⟨p, k1, k2⟩ := List.any_eq_true.mp h5
      rw [Bool.and_eq_true] at k2
      obtain ⟨g, k3, k4⟩ := List.any_eq_true.mp k2.2
      have e1 := eqS_eq k2.1
      have e2 := eqS_eq k4
      subst e1 e2
      exact ss_fst (gam_mono _ _) G.g (nmAt_eq h2) v.1 v.2.1 v.2.2 (fl := p.2) k1 k3 (chkE_ok a G.g h6).1 (sw_nt h4)
    · cases h
theorem chkSs_ok (G : GoodS c n C X N sc) : ∀ (s : TSs) {st : List Stmt}, chkSs c N sc s st = true → PSs X st (trSs (GΓ c n) (Rd c) X.K s)
  | .nil, st, h => by
    unfold chkSs at h
    split at h
    · exact ss_nil
    · cases h
  | .cons s r, st, h => by
    unfold chkSs at h
    split at h
    · rename_i hx; cases hx
    · rename_i i r' hx
      cases hx
      exact ss_frz (chkSs_ok G r h)
    · rename_i is r' hx
      cases hx
      simp only [Bool.and_eq_true, List.all_eq_true, decide_eq_true_eq] at h
      exact ss_fgt G.g.hN h.1 (chkSs_ok G r h.2)
    · rename_i s' r' _ _ hx
      cases hx
      split at h
      · rw [Bool.and_eq_true] at h
        exact ss_cons (chkS_ok G s h.1) (chkSs_ok G r h.2)
      · cases h
end
theorem wpG_plain {Γ : Gam} {rd : Nat → Nat} {zs : List T} {s : TS} (hs : s.plain = true) (env : Env) (k : Nat) (D : DG) (h : wpG Γ rd zs s env k D) : wpS Γ rd s env (D.at k) := by
  cases s <;> unfold TS.plain at hs <;> unfold wpG at h <;> first
    | exact h
    | cases hs
    | (rw [if_neg (by simpa using hs)] at h; exact h)
section
variable {zs : List T} {Fi : GFi}
theorem g_of (G : ∀ s₀ H₀, GoodS c n C (reX X s₀ H₀) N sc) {s : TS} {st : Stmt} (hs : s.plain = true) (h : chkS c N sc s st = true) : GS (zs.length + 2) X Fi (gz X.K zs) st (trG (GΓ c n) (Rd c) X.K zs s) := by
  refine g_plain (fun e s z => ?_) (fun env k D => wpG_plain hs env k D) fun s₀ H₀ => chkS_ok (G s₀ H₀) s h
  have := (G s X.H_0).never
  rw [show X.xe = (reX X s X.H_0).xe from rfl, this] at z
  exact z
mutual
theorem chkG_ok (G : ∀ s₀ H₀, GoodS c n C (reX X s₀ H₀) N sc) (hco : X.env.scope.isCoroutine = false) (hit : interactive X.env = false) : ∀ (s : TS) {st : Stmt}, chkG c N sc s st = true → GS (zs.length + 2) X Fi (gz X.K zs) st (trG (GΓ c n) (Rd c) X.K zs s)
  | .yld a, st, h => by
    unfold chkG at h
    split at h
    · refine g_yld (gam_mono _ _) (fun e s z => ?_) (fun s₀ H₀ => (chkE_ok a (G s₀ H₀).g h).1) hco hit
      have := (G s X.H_0).never
      rw [show X.xe = (reX X s X.H_0).xe from rfl, this] at z
      exact z
    · cases h
  | .whl t b, st, h => by
    unfold chkG at h
    by_cases hy : b.hasY = true
    · rw [if_pos hy] at h
      split at h
      · simp only [Bool.and_eq_true] at h
        obtain ⟨⟨h1, h2⟩, h3⟩ := h
        refine g_whl (gam_mono _ _) hy (fun e s z => ?_) (fun s₀ H₀ => (chkE_ok t (G s₀ H₀).g h2).2 h1) (chkGs_ok G hco hit b h3)
        have := (G s X.H_0).never
        rw [show X.xe = (reX X s X.H_0).xe from rfl, this] at z
        exact z
      · cases h
    · rw [if_neg hy] at h
      exact g_of G (by unfold TS.plain; simpa using hy) h
  | .asg i own a, st, h => by unfold chkG at h; rw [Bool.and_eq_true] at h; exact g_of G h.1 h.2
  | .ali i j ts, st, h => by unfold chkG at h; rw [Bool.and_eq_true] at h; exact g_of G h.1 h.2
  | .unp is a, st, h => by unfold chkG at h; rw [Bool.and_eq_true] at h; exact g_of G h.1 h.2
  | .app i ts a, st, h => by unfold chkG at h; rw [Bool.and_eq_true] at h; exact g_of G h.1 h.2
  | .appMv i ts j, st, h => by unfold chkG at h; rw [Bool.and_eq_true] at h; exact g_of G h.1 h.2
  | .sto i ts k a, st, h => by unfold chkG at h; rw [Bool.and_eq_true] at h; exact g_of G h.1 h.2
  | .frz i, st, h => by unfold chkG at h; rw [Bool.and_eq_true] at h; exact g_of G h.1 h.2
  | .ex a, st, h => by unfold chkG at h; rw [Bool.and_eq_true] at h; exact g_of G h.1 h.2
  | .ite t a b, st, h => by unfold chkG at h; rw [Bool.and_eq_true] at h; exact g_of G h.1 h.2
  | .for_ it b, st, h => by unfold chkG at h; rw [Bool.and_eq_true] at h; exact g_of G h.1 h.2
  | .forO i j b, st, h => by unfold chkG at h; rw [Bool.and_eq_true] at h; exact g_of G h.1 h.2
  | .forD i j ts b, st, h => by unfold chkG at h; rw [Bool.and_eq_true] at h; exact g_of G h.1 h.2
  | .forG i f ts b, st, h => by unfold chkG at h; rw [Bool.and_eq_true] at h; exact g_of G h.1 h.2
  | .ret a, st, h => by unfold chkG at h; rw [Bool.and_eq_true] at h; exact g_of G h.1 h.2
  | .retV i, st, h => by unfold chkG at h; rw [Bool.and_eq_true] at h; exact g_of G h.1 h.2
  | .retN, st, h => by unfold chkG at h; rw [Bool.and_eq_true] at h; exact g_of G h.1 h.2
  | .brk, st, h => by unfold chkG at h; rw [Bool.and_eq_true] at h; exact g_of G h.1 h.2
  | .cnt, st, h => by unfold chkG at h; rw [Bool.and_eq_true] at h; exact g_of G h.1 h.2
  | .pas, st, h => by unfold chkG at h; rw [Bool.and_eq_true] at h; exact g_of G h.1 h.2
  | .rse, st, h => by unfold chkG at h; rw [Bool.and_eq_true] at h; exact g_of G h.1 h.2
  | .fgt is, st, h => by unfold chkG at h; rw [Bool.and_eq_true] at h; exact g_of G h.1 h.2
  | .fst i D f a, st, h => by unfold chkG at h; rw [Bool.and_eq_true] at h; exact g_of G h.1 h.2
theorem chkGs_ok (G : ∀ s₀ H₀, GoodS c n C (reX X s₀ H₀) N sc) (hco : X.env.scope.isCoroutine = false) (hit : interactive X.env = false) : ∀ (s : TSs) {st : List Stmt}, chkGs c N sc s st = true → GSs (zs.length + 2) X Fi (gz X.K zs) st (trGs (GΓ c n) (Rd c) X.K zs s)
  | .nil, st, h => by
    unfold chkGs at h
    split at h
    · exact g_nil
    · cases h
  | .cons s r, st, h => by
    unfold chkGs at h
    split at h
    · rename_i hx; cases hx
    · rename_i i r' hx
      cases hx
      exact g_frz (chkGs_ok G hco hit r h)
    · rename_i is r' hx
      cases hx
      simp only [Bool.and_eq_true, List.all_eq_true, decide_eq_true_eq] at h
      exact g_fgt (N := N) (G X.s_0 X.H_0).g.hN h.1 (chkGs_ok G hco hit r h.2)
    · rename_i s' r' _ _ hx
      cases hx
      split at h
      · rw [Bool.and_eq_true] at h
        exact g_cons (chkG_ok G hco hit s h.1) (chkGs_ok G hco hit r h.2)
      · cases h
end
end
end
end PT

namespace PT
open PySem PySem.Spec PyProof.Rows L2
/-! ### a def's promise -/
def scopeOk (N ps : List Str) (sc : Scope) : Bool := (match sc.kind with | .function => true | _ => false) && !sc.isCoroutine && !sc.isGenerator && decide N.Nodup && decide (N.take ps.length = ps) && (ps.all fun x => isL sc x) && (sc.names.all fun y => match y.2 with | .free => false | _ => true)
theorem scope_of {N ps : List Str} {sc : Scope} (h : scopeOk N ps sc = true) : FnScope N ps sc := by
  unfold scopeOk at h
  simp only [Bool.and_eq_true, Bool.not_eq_true', decide_eq_true_eq, List.all_eq_true] at h
  obtain ⟨⟨⟨⟨⟨⟨h1, h2⟩, h3⟩, h4⟩, h5⟩, h6⟩, h7⟩ := h
  refine ⟨?_, h2, h3, h4, h5, fun x hx => isL_of (h6 x hx), fun y hy e => ?_⟩
  · split at h1
    · assumption
    · cases h1
  · have := h7 y hy
    rw [e] at this
    cases this
/-- a generator def's scope: no name is a cell -/
def gscopeOk (N ps : List Str) (sc : Scope) : Bool := (match sc.kind with | .function => true | _ => false) && !sc.isCoroutine && sc.isGenerator && decide N.Nodup && decide (N.take ps.length = ps) && (ps.all fun x => isL sc x) && (sc.names.all fun y => match y.2 with | .free => false | .cell => false | _ => true)
theorem gscope_of {N ps : List Str} {sc : Scope} (h : gscopeOk N ps sc = true) : GScope N ps sc ∧ ∀ y ∈ sc.names, y.2 ≠ .cell := by
  unfold gscopeOk at h
  simp only [Bool.and_eq_true, Bool.not_eq_true', decide_eq_true_eq, List.all_eq_true] at h
  obtain ⟨⟨⟨⟨⟨⟨h1, h2⟩, h3⟩, h4⟩, h5⟩, h6⟩, h7⟩ := h
  refine ⟨⟨?_, h2, h3, h4, h5, fun x hx => isL_of (h6 x hx), fun y hy e => ?_⟩, fun y hy e => ?_⟩
  · split at h1
    · assumption
    · cases h1
  · have := h7 y hy
    rw [e] at this
    cases this
  · have := h7 y hy
    rw [e] at this
    cases this
def chkD (c : Cfg) (d : Def) (dd : He.DefD) : Bool := match d.ini with
  | none => eqS d.name dd.name && (bif d.isG then gscopeOk d.N d.ps dd.scope else scopeOk d.N d.ps dd.scope) && (bif d.isG then d.pri.isNone && chkGs c d.N dd.scope d.body dd.body else (d.own.isNone && d.pri.isSome || d.pri.isNone && chkSs c d.N dd.scope d.body dd.body)) && dd.dfl.isEmpty && dd.kwd.isEmpty && decide (dd.at_ = (dd.name, none))
  | some D => eqS d.name D && scopeOk d.N (d.N.take 1 ++ d.ps) dd.scope && chkSs c d.N dd.scope d.body dd.body && dd.dfl.isEmpty && dd.kwd.isEmpty && decide (dd.at_ = (D, some ("__init__" : Str))) && decide (0 < d.N.length) && decide (0 ∉ d.body.wr) && isCls c D
/-- the names that a call binds -/
def Def.pars (d : Def) : List Str := match d.ini with
  | none => d.ps
  | some _ => d.N.take 1 ++ d.ps
structure DOk (c : Cfg) (d : Def) (dd : He.DefD) (f : Nat) : Prop where
  chk : chkD c d dd = true
  bnd : ∀ (kV doc pm : Value) (an : Option Addr) (cdv ct : Value) (us : List Value), us.length = d.pars.length → bindArgs (PySem.W.fnOf dd.name dd.qual dd.params dd.body dd.scope .none kV doc pm an cdv ct) ⟨us, []⟩ = pure (d.pars.zip us)
  bndK : ∀ q ∈ c.kws, q.f = f → ∀ (kV doc pm : Value) (an : Option Addr) (cdv ct : Value) (us ws : List Value), us.length = q.n + (if d.ini.isSome then 1 else 0) → ws.length = q.ks.length → bindArgs (PySem.W.fnOf dd.name dd.qual dd.params dd.body dd.scope .none kV doc pm an cdv ct) ⟨us, q.ks.zip ws⟩ = pure (d.pars.zip (if d.ini.isSome then us.take 1 ++ pickL Value.none (us.drop 1 ++ ws) q.ord else pickL Value.none (us ++ ws) q.ord))
theorem entry_get {ts : List T} {N i : Nat} : (entry N ts).get i = match ts[i]? with
    | some t => .sh t
    | none => .em := by
  have key : ∀ (l : List T) (r : Env) (i : Nat), (∀ j, Env.get r j = .em) → Env.get (l.map Sl.sh ++ r) i = match l[i]? with
    | some t => .sh t
    | none => .em := by
    intro l
    induction l with
    | nil => exact fun r i h => h i
    | cons t l ih =>
      intro r i h
      cases i with
      | zero => rfl
      | succ i => exact ih r i h
  refine key ts _ i fun j => ?_
  have rep : ∀ (n j : Nat), Env.get (List.replicate n Sl.em) j = .em := by
    intro n
    induction n with
    | zero => exact fun j => rfl
    | succ n ih =>
      intro j
      cases j with
      | zero => rfl
      | succ j => exact ih j
  exact rep _ j
section
variable {K : PySem.W.Frag}
theorem str_start {H0 H : Hp} {N : List Str} {ts : List T} {vs : List V} (le : Same H0 H) (r : Reps K H0 ts vs) : StR K [] H H0 H0 H (L2.start N vs) (entry N.length ts) fun _ => [] := by
  have l := reps_len r
  refine ⟨Ext.refl le, ?_, fun i => ?_, fun _ => .nil, (fun i j a _ ha => by cases ha), (fun i a ha => by cases ha), (fun q hq => by cases hq)⟩
  · unfold entry L2.start
    simp only [List.length_append, List.length_map, List.length_replicate, l]
  · rw [entry_get]
    cases e : ts[i]? with
    | none => exact rfl
    | some t =>
      obtain ⟨v, h1, h2⟩ := reps_get r e
      refine ⟨rfl, v, ?_, h2⟩
      unfold L2.start
      rw [List.getElem?_append_left (by rw [List.length_map]; exact idx_lt h1), List.getElem?_map, h1]
      rfl
theorem own_frz {H0' H' He : Hp} {d : Nat} {t : T} {v : V} {f : List Addr} (le : Same H0' H') (o : Own K H0' H' d t v f) (h : ∀ a ∈ f, He a = none) : Rep K (frzN He H0' H') t v :=
  own_rep (same_frzN le) d t v f (fun a ha => frzN_new (h a ha)) o
theorem read_def {c : Cfg} {n f : Nat} {d : Def} {N : List Str} (hd : c.tbl[f]? = some d) (hni : d.ini = none) (hnp : d.pri = none) (hng : d.isG = false) (hno : d.own = none) (hN : N = d.N) {vs : List V} {H : Hp} {Q : VK} {E : XK} (h : spOf K (gam c.tbl (n + 1) f) d.rd vs H Q E) :
    vs.length = d.ps.length ∧ trSs (GΓ c n) (Rd c) K d.body { nx := fun _ H' => Q .non H', rt := Q } (L2.start N vs) H := by
  subst hN
  obtain ⟨H0, ts, Qt, le, r, g, hq⟩ := h
  have g : wpDef (gam c.tbl n) (rdT c.tbl) d ts Qt := by
    unfold gam at g
    simp only [hd, hni, hnp, hng] at g
    exact g
  obtain ⟨hl, g⟩ := g
  rw [hno] at g
  refine ⟨by rw [reps_len r, hl], [], H, H0, H0, _, _, { nx := fun _ => d.rd = 0 ∧ Qt .non, rt := fun t o => rdOk d.rd o ∧ Qt t, bk := fun _ => False, ct := fun _ => False }, (fun q hq => by cases hq), str_start le r, ⟨fun H0' H' σ env fps S q => ?_, fun H0' H' o t v x rv q => ?_, fun _ _ _ _ _ _ q => q.elim, fun _ _ _ _ _ _ q => q.elim⟩, g⟩
  · obtain ⟨q1, q2⟩ := q
    refine hq .non .non H0' H' [] q2 S.ext ?_ .nil (fun a ha => by cases ha)
    rw [q1]
    exact ⟨rfl, by unfold Rep; rfl⟩
  · obtain ⟨q1, q2⟩ := q
    cases hr : d.rd with
    | zero =>
      have fin : ∀ {d' : Nat} {f : List Addr}, Own K H0' H' d' t v f → (∀ a ∈ f, H a = none) → Q v H' := fun {d' f} ow hf =>
        hq t v _ H' [] q2 x.frzN (by rw [hr]; exact ⟨rfl, own_frz x.le ow hf⟩) .nil fun a ha => by cases ha
      cases o with
      | bor d' =>
        obtain ⟨f, a, b⟩ := rv
        exact fin a b
      | fr d' =>
        obtain ⟨f, a, b, e⟩ := rv
        exact fin a fun y hy => (e y hy).1
    | succ k =>
      rw [hr] at q1
      cases o with
      | bor d' => exact q1.elim
      | fr d' =>
        have q1 : d' = k + 1 := q1
        subst q1
        obtain ⟨f, a, b, e⟩ := rv
        exact hq t v _ H' f q2 x (by rw [hr]; exact a) b e
/-- a def to which an argument is given away -/
theorem read_own {c : Cfg} {n f p dp : Nat} {d : Def} {N : List Str} (hd : c.tbl[f]? = some d) (hni : d.ini = none) (hnp : d.pri = none) (hng : d.isG = false) (ho : d.own = some (p, dp)) (hN : N = d.N) {vs : List V} {H : Hp} {Q : VK} {E : XK} (hn : d.ps.length ≤ d.N.length) (h : spOw K (gam c.tbl (n + 1) f) d.rd p dp vs H Q E) :
    vs.length = d.ps.length ∧ trSs (GΓ c n) (Rd c) K d.body { nx := fun _ H' => Q .non H', rt := Q } (L2.start N vs) H := by
  subst hN
  obtain ⟨H0, He, ts, Qt, F, leE, le, ⟨hlv, ar⟩, lt, nd, fr, g, hq⟩ := h
  have g : wpDef (gam c.tbl n) (rdT c.tbl) d ts Qt := by
    unfold gam at g
    simp only [hd, hni, hnp, hng] at g
    exact g
  obtain ⟨hl, g⟩ := g
  have ep : (entry d.N.length ts).get p = .sh ts[p] := by rw [entry_get, List.getElem?_eq_getElem lt]
  have lp : p < (entry d.N.length ts).length := by
    unfold entry
    rw [List.length_append, List.length_map]
    omega
  rw [ho] at g
  have g : wpSs (gam c.tbl n) (rdT c.tbl) d.body ((entry d.N.length ts).put p (.ow dp ts[p])) { nx := fun _ => d.rd = 0 ∧ Qt .non, rt := fun t o => rdOk d.rd o ∧ Qt t, bk := fun _ => False, ct := fun _ => False } := by
    have e : entO (some (p, dp)) (entry d.N.length ts) = (entry d.N.length ts).put p (.ow dp ts[p]) := by
      unfold entO
      dsimp only
      rw [ep]
    rw [e] at g
    exact g
  have S : StR K [] He H0 H0 H (L2.start d.N vs) ((entry d.N.length ts).put p (.ow dp ts[p])) fun i => if i = p then F else [] := by
    refine ⟨⟨leE, Same.refl _, le.trans leE, fun _ _ _ => rfl⟩, ?_, fun i => ?_, fun i => ?_, fun i j b hij hb => ?_, fun i b hb => ?_, fun q hq => by cases hq⟩
    · rw [len_put]
      unfold entry L2.start
      simp only [List.length_append, List.length_map, List.length_replicate]
      omega
    · have sv : ∀ {i : Nat} {v : V}, vs[i]? = some v → (L2.start d.N vs)[i]? = some (some v) := fun {i v} e => by
        unfold L2.start
        rw [List.getElem?_append_left (by rw [List.length_map]; exact idx_lt e), List.getElem?_map, e]
        rfl
      rw [get_put _ _ _ _ lp]
      by_cases e : i = p
      · subst e
        rw [if_pos rfl, if_pos rfl]
        have e2 : vs[i]? = some vs[i] := List.getElem?_eq_getElem (by omega)
        have := ar i ts[i] vs[i] (List.getElem?_eq_getElem lt) e2
        rw [if_pos rfl] at this
        exact ⟨vs[i], sv e2, this⟩
      · rw [if_neg e, if_neg (Ne.symm e), entry_get]
        cases q : ts[i]? with
        | none => exact rfl
        | some t =>
          have li : i < ts.length := idx_lt q
          have e2 : vs[i]? = some vs[i] := List.getElem?_eq_getElem (by omega)
          have := ar i t vs[i] q e2
          rw [if_neg e] at this
          exact ⟨rfl, vs[i], sv e2, this⟩
    · by_cases e : i = p
      · rw [if_pos e]; exact nd
      · rw [if_neg e]; exact .nil
    · by_cases e : i = p
      · by_cases e' : j = p
        · omega
        · rw [if_neg e']; exact fun z => by cases z
      · rw [if_neg e] at hb; cases hb
    · by_cases e : i = p
      · rw [if_pos e] at hb
        exact ⟨le.free (fr b hb), fr b hb⟩
      · rw [if_neg e] at hb; cases hb
  refine ⟨by omega, [], He, H0, H0, _, _, { nx := fun _ => d.rd = 0 ∧ Qt .non, rt := fun t o => rdOk d.rd o ∧ Qt t, bk := fun _ => False, ct := fun _ => False }, (fun q hq => by cases hq), S, ⟨fun H0' H' σ env fps S q => ?_, fun H0' H' o t v x rv q => ?_, fun _ _ _ _ _ _ q => q.elim, fun _ _ _ _ _ _ q => q.elim⟩, g⟩
  · obtain ⟨q1, q2⟩ := q
    refine hq .non .non H0' H' [] q2 S.ext ?_ .nil (fun a ha => by cases ha)
    rw [q1]
    exact ⟨rfl, by unfold Rep; rfl⟩
  · obtain ⟨q1, q2⟩ := q
    cases hr : d.rd with
    | zero =>
      have fin : ∀ {d' : Nat} {f : List Addr}, Own K H0' H' d' t v f → (∀ a ∈ f, He a = none) → Q v H' := fun {d' f} ow hf =>
        hq t v _ H' [] q2 x.frzN (by rw [hr]; exact ⟨rfl, own_frz x.le ow hf⟩) .nil fun a ha => by cases ha
      cases o with
      | bor d' =>
        obtain ⟨f, a, b⟩ := rv
        exact fin a b
      | fr d' =>
        obtain ⟨f, a, b, e⟩ := rv
        exact fin a fun y hy => (e y hy).1
    | succ k =>
      rw [hr] at q1
      cases o with
      | bor d' => exact q1.elim
      | fr d' =>
        have q1 : d' = k + 1 := q1
        subst q1
        obtain ⟨f, a, b, e⟩ := rv
        exact hq t v _ H' f q2 x (by rw [hr]; exact a) b e
/-- a generator def: what it hands out -/
theorem read_gen {c : Cfg} {n f : Nat} {d : Def} (hd : c.tbl[f]? = some d) (hni : d.ini = none) (hnp : d.pri = none) (hng : d.isG = true) {vs : List V} {H : Hp} {R : Nat → GZ → (Nat → Hp → Prop) → Hp → Prop} (h : spGn K (gam c.tbl (n + 1) f) vs H R) :
    vs.length = d.ps.length ∧ ∃ (zs : List T) (H0 : Hp), R (zs.length + 2) (gz K zs) (fun k _ => k = zs.length) H0 ∧
      ∀ H2 F2, Same H0 F2 → Same F2 H2 → trGs (GΓ c n) (Rd c) K zs d.body { nx := fun k B _ _ H' => k = zs.length ∧ Same B H', rt := fun k B _ v H' => v = .non ∧ k = zs.length ∧ Same B H' } 0 H2 F2 (L2.start d.N vs) H2 := by
  obtain ⟨H0, ts, Qt, le, r, g, hq⟩ := h
  have g : d.rd = 0 ∧ ∃ zs, wpGen (gam c.tbl n) (rdT c.tbl) d ts zs ∧ Qt (.lst zs) := by
    unfold gam at g
    simp only [hd, hni, hnp, hng] at g
    exact g
  obtain ⟨_, zs, ⟨hl, g⟩, q⟩ := g
  refine ⟨by rw [reps_len r, hl], zs, H0, hq zs q, fun H2 F2 l1 l2 => ?_⟩
  refine ⟨F2, _, _, { nx := fun _ k => k = zs.length, rt := fun t k => t = .non ∧ k = zs.length, bk := fun _ _ => False, ct := fun _ _ => False }, str_start l2 (reps_mono l1 ts vs r), ⟨fun k B F H0 H σ env fps S q => ⟨q, S.ext.s⟩, fun k B F H0 H o t v x rv q => ?_, fun _ _ _ _ _ _ _ _ _ q => q.elim, fun _ _ _ _ _ _ _ _ _ q => q.elim⟩, g⟩
  obtain ⟨q1, q2⟩ := q
  subst q1
  have := rv.here x.le
  unfold Rep at this
  exact ⟨this, q2, x.s⟩
/-- an __init__ -/
theorem read_ini {c : Cfg} {n f : Nat} {d : Def} {D : Str} (hd : c.tbl[f]? = some d) (hini : d.ini = some D) (hN : 0 < d.N.length) (hw : 0 ∉ d.body.wr) {vs : List V} {H : Hp} {Q : VK} {E : XK} (h : spI K D (gam c.tbl (n + 1) f) vs H Q E) :
    vs.length = (d.N.take 1 ++ d.ps).length ∧ trSs (GΓ c n) (Rd c) K d.body { nx := fun _ H' => Q .non H', rt := Q } (L2.start d.N vs) H := by
  obtain ⟨a, dx, r, H0, He, ts, Qt, rfl, ha, hH, hE, le, rr, ok, g, hq⟩ := h
  have g : wpIni (gam c.tbl n) (rdT c.tbl) D d ts Qt := by
    unfold gam at g
    simp only [hd, hini] at g
    exact g.2
  obtain ⟨hl, g⟩ := g
  have hr := reps_len rr
  have n1 : (d.N.take 1).length = 1 := by rw [List.length_take]; omega
  refine ⟨by rw [List.length_cons, List.length_append, n1, hr, hl, Nat.add_comm], ?_⟩
  have leH : Same He H := fun b o e => by
    have : b ≠ a := fun z => by rw [z, hE] at e; cases e
    rw [← hH b this]; exact e
  have base := str_start (N := d.N) (K := K) (H0 := H0) (H := He) (ts := .non :: ts) (vs := .non :: r) le (reps_cons (by unfold Rep; rfl) rr)
  have eN : (entry d.N.length (.non :: ts)) = .sh .non :: entry (d.N.length - 1) ts := by
    unfold entry
    rw [List.map_cons, List.length_cons, List.cons_append, show d.N.length - (ts.length + 1) = d.N.length - 1 - ts.length by omega]
  have eS : L2.start d.N (.non :: r) = some .non :: (L2.start d.N (.non :: r)).tail := by
    unfold L2.start
    rfl
  have eS2 : L2.start d.N (.ref a :: r) = some (.ref a) :: (L2.start d.N (.non :: r)).tail := by
    unfold L2.start
    rfl
  have S : StR K [(0, .ref a)] He H0 H0 H (L2.start d.N (.ref a :: r)) (.slf D [] [] :: entry (d.N.length - 1) ts) fun i => if i = 0 then [a] else [] := by
    rw [eN, eS] at base
    rw [eS2]
    have h0 : H0 a = none := le.free hE
    refine ⟨⟨leH, Same.refl _, le.trans leH, fun _ _ _ => rfl⟩, by have := base.len; simpa using this, fun i => ?_, fun i => ?_, fun i j b hij hb => ?_, fun i b hb => ?_, fun q hq => ?_⟩
    · cases i with
      | zero => exact ⟨a, dx, [], rfl, rfl, ha, rfl, ok, reps_nil⟩
      | succ i =>
        have q := base.slot (i + 1)
        have q : SlR K He H0 He _ _ (i + 1) [] (Env.get (entry (d.N.length - 1) ts) i) := q
        show SlR K He H0 H _ _ (i + 1) [] (Env.get (entry (d.N.length - 1) ts) i)
        rw [entry_get] at q ⊢
        cases e : ts[i]? with
        | none => exact rfl
        | some t =>
          rw [e] at q
          obtain ⟨z, v, e1, e2⟩ := q
          exact ⟨z, v, e1, e2⟩
    · by_cases e : i = 0
      · rw [if_pos e]; simp
      · rw [if_neg e]; exact .nil
    · by_cases e : i = 0
      · by_cases e' : j = 0
        · omega
        · rw [if_neg e']; exact fun z => by cases z
      · rw [if_neg e] at hb; cases hb
    · by_cases e : i = 0
      · rw [if_pos e] at hb
        rw [List.mem_singleton.mp hb]
        exact ⟨h0, hE⟩
      · rw [if_neg e] at hb; cases hb
    · rw [List.mem_singleton.mp hq]
      rfl
  refine ⟨[(0, .ref a)], He, H0, H0, _, _, { nx := fun env => iniEnd D env Qt, rt := fun _ _ => False, bk := fun _ => False, ct := fun _ => False }, fun q hq => ?_, S, ⟨fun H0' H' σ env fps S1 q => ?_, fun _ _ _ _ _ _ _ q => q.elim, fun _ _ _ _ _ _ q => q.elim, fun _ _ _ _ _ _ q => q.elim⟩, g⟩
  · rw [List.mem_singleton.mp hq]
    exact hw
  · have q : iniEnd D env Qt := q
    unfold iniEnd at q
    split at q
    · rename_i C ns us e
      have sl := S1.slot 0
      rw [e] at sl
      obtain ⟨a', dx', ws, e1, e2, e3, e4, e5, e6⟩ := sl
      have pin := S1.pin (0, .ref a) (List.mem_singleton.mpr rfl)
      have pin : σ[0]? = some (some (.ref a)) := pin
      rw [e2] at pin
      cases pin
      obtain ⟨rfl, q⟩ := q
      have o0 := S1.out 0 a (by rw [e1]; exact List.mem_singleton.mpr rfl)
      exact hq ns us ws dx' H0' H' q S1.ext e3 o0.1 e4 e5 e6
    · exact q.elim
/-- what the head says of the own classes -/
structure ClsFacts (K : PySem.W.Frag) (mg : Str → Option Value) (c : Cfg) : Prop where
  cls : ∀ p ∈ c.cls, mg p.1 = some (.ref (gaC K p.1)) ∧ ClsOk K p.1 p.2 ∧ ∀ q ∈ c.cls, PySem.W.kitOne K (.ref (gaC K q.1)) (.ref (gaC K p.1)) = some (decide (q.1 = p.1))
  clb : ∀ p ∈ c.cls, ∀ t ∈ ["NoneType", "bool", "int", "str", "list", "tuple"], PySem.W.kitOne K (.type t) (.ref (gaC K p.1)) = some false
  mkr : ∀ p ∈ c.cls, Mk K (gaC K p.1) (He.ma K (gaC K p.1) "__init__")
theorem FnOk.absurd0 {P : Program} {w : World} {mg : Str → Option Value} {base : Heap} {C : CXT} {a : Addr} {fd : FuncData} {ps : List Str} {sp : Sp} {n : Nat} (no : ∀ {vs H Q E}, sp vs H Q E → False) : FnOk P w K mg base C n a fd ps sp :=
  ⟨fun vs H Q E h => (no h).elim, fun A outer s H args us vs Q E _ _ _ _ h => (no h).elim⟩
theorem dvs_nil {dd : He.DefD} (h : dd.dfl.isEmpty = true) : dd.dvs K = [] := by
  unfold He.DefD.dvs
  rw [List.isEmpty_iff.mp h]
  rfl
/-- what is shown by hand -/
abbrev priSp (K : PySem.W.Frag) (d : Def) (R : List T → T → Prop) : Sp := spOf K (fun ts Q => ts.length = d.ps.length ∧ ∃ t, R ts t ∧ Q t) 0
def PriOk (P : Program) (w : World) (K : PySem.W.Frag) (mg : Str → Option Value) (base : Heap) (c : Cfg) (fn : List He.DefD) : Prop := ∀ (f : Nat) (d : Def) (R : List T → T → Prop), c.tbl[f]? = some d → d.ini = none → d.pri = some R → d.rd = 0 →
  ∀ (a : Addr) (fd : FuncData) (dd : He.DefD), fn[f]? = some dd → L2.FunD K dd.name dd.qual dd.params dd.body dd.scope (dd.dvs K) (dd.kws K) a fd → FnOk P w K mg base CX0 8 a fd d.ps (priSp K d R)
theorem gam_pri {c : Cfg} {n f : Nat} {d : Def} {R : List T → T → Prop} {ts : List T} {Q : T → Prop} (hd : c.tbl[f]? = some d) (hni : d.ini = none) (hp : d.pri = some R) (g : gam c.tbl (n + 1) f ts Q) : 4 ≤ n ∧ d.rd = 0 ∧ ts.length = d.ps.length ∧ ∃ t, R ts t ∧ Q t := by
  unfold gam at g
  simp only [hd, hni, hp] at g
  exact g
/-- every def of the table keeps its promise, at every depth -/
theorem all_ok {P : Program} {w : World} {mg : Str → Option Value} {base : Heap} {c : Cfg} {fn : List He.DefD} (hf : ∀ (f : Nat) (d : Def), c.tbl[f]? = some d → ∃ dd : He.DefD, fn[f]? = some dd ∧ DOk c d dd f)
    (hfn : ∀ (f : Nat) (d : Def) (dd : He.DefD), c.tbl[f]? = some d → fn[f]? = some dd → ∃ fd, L2.FunD K dd.name dd.qual dd.params dd.body dd.scope (dd.dvs K) (dd.kws K) (He.fAd K dd.at_) fd ∧ (d.ini = none → mg dd.name = some (.ref (He.fAd K dd.at_))))
    (hb : ∀ x ∈ bltN, mg x = none) (hg : c.gcd = true → mg "gcd" = some (.builtin "math.gcd")) (hc : ClsFacts K mg c) (hpri : PriOk P w K mg base c fn) :
    ∀ (n f : Nat) (d : Def), c.tbl[f]? = some d → ∀ (a : Addr) (fd : FuncData) (dd : He.DefD), fn[f]? = some dd → L2.FunD K dd.name dd.qual dd.params dd.body dd.scope (dd.dvs K) (dd.kws K) a fd →
      (d.ini = none → d.isG = false → (d.own = none → FnOk P w K mg base CX0 (2 * n) a fd d.ps (spOf K (gam c.tbl n f) d.rd)) ∧ ∀ p dp, d.own = some (p, dp) → FnOk P w K mg base CX0 (2 * n) a fd d.ps (spOw K (gam c.tbl n f) d.rd p dp)) ∧ (d.ini = none → d.isG = true → GFk P w K mg base (2 * n) a fd d.ps (spGn K (gam c.tbl n f))) ∧ ∀ D, d.ini = some D → FnOk P w K mg base CX0 (2 * n) a fd (d.N.take 1 ++ d.ps) (spI K D (gam c.tbl n f))
  | 0, f, d, hd, a, fd, dd, hdd, F => by
    refine ⟨fun _ _ => ⟨fun _ => FnOk.absurd0 fun {vs H Q E} h => ?_, fun _ _ _ => FnOk.absurd0 fun {vs H Q E} h => ?_⟩, fun _ _ => ⟨fun vs H R h => ?_, fun A outer s H args us vs R _ _ _ _ h => ?_⟩, fun D _ => FnOk.absurd0 fun {vs H Q E} h => ?_⟩
    · obtain ⟨_, _, _, _, _, g, _⟩ := h
      exact g
    · obtain ⟨_, _, _, _, _, _, _, _, _, _, _, g, _⟩ := h
      exact g
    · obtain ⟨_, _, _, _, _, g, _⟩ := h
      exact g.elim
    · obtain ⟨_, _, _, _, _, g, _⟩ := h
      exact g.elim
    · obtain ⟨_, _, _, _, _, _, _, _, _, _, _, _, _, _, g, _⟩ := h
      exact g
  | n + 1, f, d, hd, a, fd, dd, hdd, F => by
    obtain ⟨dd', hdd', O⟩ := hf f d hd
    rw [hdd] at hdd'
    cases hdd'
    have chk := O.chk
    have IH := all_ok (P := P) (w := w) (base := base) hf hfn hb hg hc hpri n
    have good : ∀ (X : Cx) (N : List Str) (sc : Scope), X.prog = P → X.w = w → X.K = K → X.mg = mg → X.base = base → X.N = N → N.Nodup → X.calm = true → X.env.scope = sc → (∀ x, sc.names.lookup x = some .cell → X.fn x = true) → Room (2 * n + 1) X.A → (∀ Y : Cx, Y.prog = X.prog → Y.w = X.w → Passes CX0 Y E0) → Good c n CX0 X N sc := by
      intro X N sc e1 e2 e3 e4 e5 hN nd calm hsc fnc room pass
      subst e1 e2 e3 e4 e5 hsc
      refine ⟨hN, nd, calm, fun x k e => .inl e, fnc, room, hb, hg, fun f' d' hd' hni hng hno => ?_, fun f' d' p dp hd' hni hng hno => ?_, fun f' d' hd' hni hng => ?_, fun f' d' D hd' hini => ?_, hc.cls, hc.clb, pass⟩
      · obtain ⟨dd2, e2, O2⟩ := hf f' d' hd'
        obtain ⟨fd2, F2, m2⟩ := hfn f' d' dd2 hd' e2
        have chk2 := O2.chk
        unfold chkD at chk2
        rw [hni] at chk2
        simp only [Bool.and_eq_true] at chk2
        obtain ⟨⟨⟨⟨⟨k1, _⟩, _⟩, k4⟩, k5⟩, _⟩ := chk2
        obtain ⟨oc, od, dV, kV, doc, pm, an, cdv, ct, osl, rfl, lk, hcd, hD, hK⟩ := F2.ex
        have eV : dV = .none := by
          rcases hD with ⟨_, e⟩ | ⟨e, _⟩
          · exact e
          · exact absurd (dvs_nil k4) e
        subst eV
        have hp : d'.pars = d'.ps := by unfold Def.pars; rw [hni]
        refine ⟨_, _, by rw [eqS_eq k1]; exact m2 hni, F2.kp, ((IH f' d' hd' _ _ dd2 e2 F2).1 hni hng).1 hno, ?_, fun q hq hqf us ws h1 h2 => ?_⟩
        · have := O2.bnd kV doc pm an cdv ct
          rw [hp] at this
          exact this
        · have := O2.bndK q hq hqf kV doc pm an cdv ct us ws (by rw [hni]; exact h1) h2
          rw [hp, hni] at this
          exact this
      · obtain ⟨dd2, e2, O2⟩ := hf f' d' hd'
        obtain ⟨fd2, F2, m2⟩ := hfn f' d' dd2 hd' e2
        have chk2 := O2.chk
        unfold chkD at chk2
        rw [hni] at chk2
        simp only [Bool.and_eq_true] at chk2
        obtain ⟨⟨⟨⟨⟨k1, _⟩, _⟩, k4⟩, k5⟩, _⟩ := chk2
        obtain ⟨oc, od, dV, kV, doc, pm, an, cdv, ct, osl, rfl, lk, hcd, hD, hK⟩ := F2.ex
        have eV : dV = .none := by
          rcases hD with ⟨_, e⟩ | ⟨e, _⟩
          · exact e
          · exact absurd (dvs_nil k4) e
        subst eV
        have hp : d'.pars = d'.ps := by unfold Def.pars; rw [hni]
        refine ⟨_, _, by rw [eqS_eq k1]; exact m2 hni, F2.kp, ((IH f' d' hd' _ _ dd2 e2 F2).1 hni hng).2 p dp hno, ?_⟩
        · have := O2.bnd kV doc pm an cdv ct
          rw [hp] at this
          exact this
      · obtain ⟨dd2, e2, O2⟩ := hf f' d' hd'
        obtain ⟨fd2, F2, m2⟩ := hfn f' d' dd2 hd' e2
        have chk2 := O2.chk
        unfold chkD at chk2
        rw [hni] at chk2
        simp only [Bool.and_eq_true] at chk2
        obtain ⟨⟨⟨⟨⟨k1, _⟩, _⟩, k4⟩, k5⟩, _⟩ := chk2
        obtain ⟨oc, od, dV, kV, doc, pm, an, cdv, ct, osl, rfl, lk, hcd, hD, hK⟩ := F2.ex
        have eV : dV = .none := by
          rcases hD with ⟨_, e⟩ | ⟨e, _⟩
          · exact e
          · exact absurd (dvs_nil k4) e
        subst eV
        have hp : d'.pars = d'.ps := by unfold Def.pars; rw [hni]
        refine ⟨_, _, by rw [eqS_eq k1]; exact m2 hni, F2.kp, (IH f' d' hd' _ _ dd2 e2 F2).2.1 hni hng, ?_, fun q hq hqf us ws h1 h2 => ?_⟩
        · have := O2.bnd kV doc pm an cdv ct
          rw [hp] at this
          exact this
        · have := O2.bndK q hq hqf kV doc pm an cdv ct us ws (by rw [hni]; exact h1) h2
          rw [hp, hni] at this
          exact this
      · obtain ⟨dd2, e2, O2⟩ := hf f' d' hd'
        obtain ⟨fd2, F2, m2⟩ := hfn f' d' dd2 hd' e2
        have chk2 := O2.chk
        unfold chkD at chk2
        rw [hini] at chk2
        simp only [Bool.and_eq_true, decide_eq_true_eq] at chk2
        obtain ⟨⟨⟨⟨⟨⟨⟨⟨k1, _⟩, _⟩, k4⟩, k5⟩, k6⟩, k7⟩, k8⟩, k9⟩ := chk2
        obtain ⟨fl, k9⟩ := isCls_of k9
        obtain ⟨oc, od, dV, kV, doc, pm, an, cdv, ct, osl, rfl, lk, hcd, hD, hK⟩ := F2.ex
        have eV : dV = .none := by
          rcases hD with ⟨_, e⟩ | ⟨e, _⟩
          · exact e
          · exact absurd (dvs_nil k4) e
        subst eV
        have hp : d'.pars = d'.N.take 1 ++ d'.ps := by unfold Def.pars; rw [hini]
        obtain ⟨s, r, hs⟩ : ∃ s r, d'.N = s :: r := by
          cases h : d'.N with
          | nil => rw [h] at k7; cases k7
          | cons s r => exact ⟨s, r, rfl⟩
        have ht : d'.N.take 1 ++ d'.ps = s :: d'.ps := by rw [hs]; rfl
        rw [ht] at hp
        have ea : He.fAd X.K dd2.at_ = He.ma X.K (gaC X.K D) "__init__" := by rw [k6]; rfl
        have := (IH f' d' hd' _ _ dd2 e2 F2).2.2 D hini
        rw [ht, ea] at this
        refine ⟨_, _, s, by rw [eqS_eq k1]; exact (hc.cls _ k9).1, hc.mkr _ k9, this, ?_, fun q hq hqf us ws h1 h2 => ?_⟩
        · have := O2.bnd kV doc pm an cdv ct
          rw [hp] at this
          exact fun us hl => this us (by rw [List.length_cons]; exact hl)
        · have := O2.bndK q hq hqf kV doc pm an cdv ct us ws (by rw [hini]; exact h1) h2
          rw [hp, hini] at this
          exact this
    refine ⟨fun hni hng => ?_, fun hni hng => ?_, fun D hini => ?_⟩
    · unfold chkD at chk
      rw [hni] at chk
      simp only [Bool.and_eq_true] at chk
      obtain ⟨⟨⟨⟨⟨h1, h2⟩, h3⟩, h4⟩, h5⟩, _⟩ := chk
      rw [hng] at h2 h3
      have h2 : scopeOk d.N d.ps dd.scope = true := h2
      have h3 : (d.own.isNone && d.pri.isSome || d.pri.isNone && chkSs c d.N dd.scope d.body dd.body) = true := h3
      have S := scope_of h2
      refine ⟨fun hno => ?_, fun p dp ho => ?_⟩
      case' refine_2 =>
        rw [ho] at h3
        have h3 : (d.pri.isNone && chkSs c d.N dd.scope d.body dd.body) = true := by simpa using h3
        rw [Bool.and_eq_true, Option.isNone_iff_eq_none] at h3
        obtain ⟨hp, h3⟩ := h3
        have hn : d.ps.length ≤ d.N.length := by
          have := S.pre
          rw [← this, List.length_take]
          omega
        show FnOk P w K mg base CX0 (2 * n + 1 + 1) a fd d.ps _
        exact F.ok S (fun vs H Q E h => (read_own hd hni hp hng ho rfl hn h).1) fun cdv A outer s H vs Q E hr h => ⟨_, PSs.nox (chkSs_ok (n := n) (C := CX0) ⟨good _ _ _ rfl rfl rfl rfl rfl rfl S.nd rfl rfl (fun x _ => rfl) hr (fun Y _ _ => pass0), rfl, S.kind, PassesOwn.never, rfl, rfl, rfl⟩ d.body h3), (read_own hd hni hp hng ho rfl hn h).2⟩
      cases hp : d.pri with
      | some R =>
        by_cases hn : 4 ≤ n ∧ d.rd = 0
        · refine ((hpri f d R hd hni hp hn.2 a fd dd hdd F).mono (show 8 ≤ 2 * (n + 1) by omega)).imp fun vs H Q E h => ?_
          obtain ⟨H0, ts, Qt, le, r, g, hq⟩ := h
          obtain ⟨_, _, g1, g2⟩ := gam_pri hd hni hp g
          rw [hn.2] at hq
          exact ⟨H0, ts, Qt, le, r, ⟨g1, g2⟩, hq⟩
        · refine FnOk.absurd0 fun {vs H Q E} h => ?_
          obtain ⟨H0, ts, Qt, le, r, g, hq⟩ := h
          obtain ⟨g0, g1, _⟩ := gam_pri hd hni hp g
          exact hn ⟨g0, g1⟩
      | none =>
      rw [hp, hno] at h3
      have h3 : chkSs c d.N dd.scope d.body dd.body = true := h3
      show FnOk P w K mg base CX0 (2 * n + 1 + 1) a fd d.ps _
      exact F.ok S (fun vs H Q E h => (read_def hd hni hp hng hno rfl h).1) fun cdv A outer s H vs Q E hr h => ⟨_, PSs.nox (chkSs_ok (n := n) (C := CX0) ⟨good _ _ _ rfl rfl rfl rfl rfl rfl S.nd rfl rfl (fun x _ => rfl) hr (fun Y _ _ => pass0), rfl, S.kind, PassesOwn.never, rfl, rfl, rfl⟩ d.body h3), (read_def hd hni hp hng hno rfl h).2⟩
    · unfold chkD at chk
      rw [hni] at chk
      simp only [Bool.and_eq_true] at chk
      obtain ⟨⟨⟨⟨⟨h1, h2⟩, h3⟩, h4⟩, h5⟩, _⟩ := chk
      rw [hng] at h2 h3
      have h2 : gscopeOk d.N d.ps dd.scope = true := h2
      have h3 : (d.pri.isNone && chkGs c d.N dd.scope d.body dd.body) = true := h3
      rw [Bool.and_eq_true] at h3
      have hnp := Option.isNone_iff_eq_none.mp h3.1
      obtain ⟨S, ncl⟩ := gscope_of h2
      obtain ⟨oc, od, dV, kV, doc, pm, an, cdv, ct, osl, rfl, lk, hcd, hD, hK⟩ := F.ex
      show GFk P w K mg base (2 * n + 1 + 1) a _ d.ps _
      refine gfk_of lk hcd S ncl (fun vs H R h => (read_gen hd hni hnp hng h).1) fun s H vs R h => ?_
      obtain ⟨_, zs, H0, hR, hq⟩ := read_gen hd hni hnp hng h
      refine ⟨zs.length + 2, gz K zs, _, H0, hR, trGs (GΓ c n) (Rd c) K zs d.body, fun A outer pn Fi hr => ?_, hq⟩
      exact chkGs_ok (n := n) (C := CX0) (X := gX P w K mg base d.N dd.qual dd.scope a cdv A outer s H pn) (fun s₀ H₀ => ⟨good _ _ _ rfl rfl rfl rfl rfl rfl S.nd rfl rfl (fun x _ => rfl) hr (fun Y _ _ => pass0), rfl, S.kind, PassesOwn.never, rfl, rfl, rfl⟩) S.co (by show interactive (envOfC dd.qual dd.scope _ a cdv) = false; unfold interactive; rw [show (envOfC dd.qual dd.scope s.heap.objs.size a cdv).scope.kind = .function from S.kind]; rfl) d.body h3.2
    · unfold chkD at chk
      rw [hini] at chk
      simp only [Bool.and_eq_true, decide_eq_true_eq] at chk
      obtain ⟨⟨⟨⟨⟨⟨⟨⟨h1, h2⟩, h3⟩, h4⟩, h5⟩, h6⟩, h7⟩, h8⟩, _⟩ := chk
      have S := scope_of h2
      show FnOk P w K mg base CX0 (2 * n + 1 + 1) a fd _ _
      exact F.ok S (fun vs H Q E h => (read_ini hd hini h7 h8 h).1) fun cdv A outer s H vs Q E hr h => ⟨_, PSs.nox (chkSs_ok (n := n) (C := CX0) ⟨good _ _ _ rfl rfl rfl rfl rfl rfl S.nd rfl rfl (fun x _ => rfl) hr (fun Y _ _ => pass0), rfl, S.kind, PassesOwn.never, rfl, rfl, rfl⟩ d.body h3), (read_ini hd hini h7 h8 h).2⟩
end
end PT

namespace PT
open PySem PySem.Spec PyProof.Rows L2
/-- the facts that the head is asked for -/
def faOf (fn : List He.DefD) (cs : List (Str × List Str)) : List He.Fa := (fn.filter fun d => d.at_.2.isNone).map (fun d => .glo d.name) ++ (cs.flatMap (fun p => [.glo p.1, .cls p.1, .mkr p.1] ++ p.2.map fun f => .noat p.1 f) ++ bltN.map .free)
def clsB (cs : List (Str × List Str)) (K : PySem.W.Frag) : Bool := cs.all fun p => He.eqO (PySem.W.findIn K (.ref (gaC K p.1)) "__class__") (some (some (.builtin "object.__class__"))) && (He.eqO (PySem.W.specialIn K (.builtin "object.__class__") "__get__") (some (some (.builtin "getset_descriptor.__get__"))) &&
  (decide (PySem.W.takesIn K (.builtin "object.__class__") = some true) && (decide (PySem.W.mroIn K (gaC K p.1) (.type "object") = some true) && ((["int", "bool", "str", "list", "tuple"].all fun t => decide (PySem.W.kitOne K (.ref (gaC K p.1)) (.type t) = some false)) &&
  ((["NoneType", "bool", "int", "str", "list", "tuple"].all fun t => decide (PySem.W.kitOne K (.type t) (.ref (gaC K p.1)) = some false)) && cs.all fun q => decide (PySem.W.kitOne K (.ref (gaC K q.1)) (.ref (gaC K p.1)) = some (decide (q.1 = p.1))))))))
theorem cls_facts {K : PySem.W.Frag} {h : Heap} {mg : Str → Option Value} {c : Cfg} {fn : List He.DefD} (X : K.In h) (G : h.Ns mainGlobals mg) (hs : He.SaysD (faOf fn c.cls) fn K) (hb : clsB c.cls K = true) : ClsFacts K mg c := by
  have fa : ∀ p ∈ c.cls, ∀ f ∈ ([.glo p.1, .cls p.1, .mkr p.1] ++ p.2.map fun f => He.Fa.noat p.1 f), f.ok K = true := fun p hp f hf =>
    hs.facts (f := f) (List.mem_append_right _ (List.mem_append_left _ (List.mem_flatMap.mpr ⟨p, hp, hf⟩)))
  have all := fun p hp => List.all_eq_true.mp hb p hp
  simp only [Bool.and_eq_true, decide_eq_true_eq, List.all_eq_true] at all
  refine ⟨fun p hp => ?_, fun p hp => ?_, fun p hp => ?_⟩
  · obtain ⟨h1, h2, h3, h4, h5, h6, h7⟩ := all p hp
    refine ⟨He.glo_ok X G (fa p hp (.glo p.1) (by simp)), ⟨He.cls_ok (fa p hp (.cls p.1) (by simp)), fun f hf => He.noat_ok (fa p hp (.noat p.1 f) (List.mem_append_right _ (List.mem_map.mpr ⟨f, hf, rfl⟩))), He.eqO_ok h1, He.eqO_ok h2, h3, h4, h5⟩, h7⟩
  · obtain ⟨h1, h2, h3, h4, h5, h6, h7⟩ := all p hp
    exact h6
  · exact He.mkr_ok (fa p hp (.mkr p.1) (by simp))
theorem glo_of {K : PySem.W.Frag} {h : Heap} {mg : Str → Option Value} {c : Cfg} {fn : List He.DefD} (X : K.In h) (G : h.Ns mainGlobals mg) (hs : He.SaysD (faOf fn c.cls) fn K) (hf : ∀ (f : Nat) (d : Def), c.tbl[f]? = some d → ∃ dd : He.DefD, fn[f]? = some dd ∧ DOk c d dd f) :
    ∀ (f : Nat) (d : Def) (dd : He.DefD), c.tbl[f]? = some d → fn[f]? = some dd → ∃ fd, L2.FunD K dd.name dd.qual dd.params dd.body dd.scope (dd.dvs K) (dd.kws K) (He.fAd K dd.at_) fd ∧ (d.ini = none → mg dd.name = some (.ref (He.fAd K dd.at_))) := fun f d e hd he => by
  have hm := List.mem_of_getElem? he
  obtain ⟨fd, F⟩ := hs.defs hm
  refine ⟨fd, F, fun hni => ?_⟩
  obtain ⟨dd', e', O⟩ := hf f d hd
  rw [he] at e'
  cases e'
  have chk := O.chk
  unfold chkD at chk
  rw [hni] at chk
  simp only [Bool.and_eq_true, decide_eq_true_eq] at chk
  have hat := chk.2
  have q := He.glo_ok X G (hs.facts (f := .glo e.name) (List.mem_append_left _ (List.mem_map.mpr ⟨e, List.mem_filter.mpr ⟨hm, by rw [hat]; rfl⟩, rfl⟩)))
  rw [q, hat]
  rfl
theorem free_of {K : PySem.W.Frag} {h : Heap} {mg : Str → Option Value} {cs : List (Str × List Str)} {fn : List He.DefD} (X : K.In h) (G : h.Ns mainGlobals mg) (hs : He.SaysD (faOf fn cs) fn K) : ∀ x ∈ bltN, mg x = none := fun x hx =>
  He.free_ok X G (hs.facts (f := .free x) (List.mem_append_right _ (List.mem_append_right _ (List.mem_map.mpr ⟨x, hx, rfl⟩))))
theorem law_facts {P : Program} {w : World} {K : PySem.W.Frag} {h : Heap} {mg : Str → Option Value} {a : Addr} {c : Cfg} {fn : List He.DefD} {k f : Nat} {d : Def} {dd : He.DefD} (X : K.In h) (G : h.Ns mainGlobals mg) (hs : He.SaysD (faOf fn c.cls) fn K) (hcb : clsB c.cls K = true)
    (hf : ∀ (f : Nat) (d : Def), c.tbl[f]? = some d → ∃ dd : He.DefD, fn[f]? = some dd ∧ DOk c d dd f) (hg : c.gcd = true → mg "gcd" = some (.builtin "math.gcd")) (hd : c.tbl[f]? = some d) (hni : d.ini = none) (hdd : fn[f]? = some dd) {x : Str} (hp : d.ps = [x]) (hr : d.rd = 0) (hm : mg dd.name = some (.ref a)) (hpri : ∀ base : Heap, PriOk P w K mg base c fn)
    (spec : ∀ ns : List Int, ns.length ≤ 63 → gam c.tbl k f [.scr ns] fun t => t = .bl true) (hng : d.isG = false := by rfl) (hno : d.own = none := by rfl) :
    ∃ fd : FuncData, (∀ (s : Shared) (v : Value), BindsTo s fd ⟨[v], []⟩ [(x, v)]) ∧ (∀ (H : Hp) (a : Addr) (ns : List Int), ns.length ≤ 63 → SqL K H a (ns.map V.int) → spOf K (gam c.tbl k f) 0 [.ref a] H (fun v _ => v = .bl true) fun _ _ _ => False) ∧
      ∀ base : Heap, K.In base → base.Ns mainGlobals mg → FnOk P w K mg base CX0 (2 * k) a fd [x] (spOf K (gam c.tbl k f) 0) := by
  have glo := glo_of X G hs hf
  have free : ∀ x ∈ bltN, mg x = none := fun x hx => He.free_ok X G (hs.facts (f := .free x) (List.mem_append_right _ (List.mem_append_right _ (List.mem_map.mpr ⟨x, hx, rfl⟩))))
  obtain ⟨fd, F, m⟩ := glo f d dd hd hdd
  have m := m hni
  rw [hm] at m
  cases m
  obtain ⟨dd', e', O⟩ := hf f d hd
  rw [hdd] at e'
  cases e'
  have F2 := F
  obtain ⟨oc, od, dV, kV, doc, pm, an, cdv, ct, osl, rfl, lk, hcd, hD, hK⟩ := F.ex
  have chk := O.chk
  unfold chkD at chk
  rw [hni] at chk
  simp only [Bool.and_eq_true] at chk
  obtain ⟨⟨⟨⟨⟨k1, _⟩, _⟩, k4⟩, k5⟩, _⟩ := chk
  have eV : dV = .none := by
    rcases hD with ⟨_, e⟩ | ⟨e, _⟩
    · exact e
    · exact absurd (dvs_nil k4) e
  subst eV
  have hpars : d.pars = d.ps := by unfold Def.pars; rw [hni]
  refine ⟨PySem.W.fnOf dd.name dd.qual dd.params dd.body dd.scope .none kV doc pm an cdv ct, fun s v => .of_eq ?_, fun H a ns hl hS => ?_, fun base _ _ => ?_⟩
  · have := O.bnd kV doc pm an cdv ct [v] (by rw [hpars, hp]; rfl)
    rw [hpars, hp] at this
    exact this
  · refine ⟨H, [.scr ns], _, Same.refl _, reps_cons (by unfold Rep; exact ⟨a, rfl, hS⟩) reps_nil, spec ns hl, fun t v H0' H' f q _ o _ _ => ?_⟩
    subst q
    have := o.2
    unfold Rep at this
    exact this
  · have := ((all_ok (P := P) (w := w) (K := K) (mg := mg) (base := base) hf glo free hg (cls_facts X G hs hcb) (hpri base) k f d hd _ _ dd hdd F2).1 hni hng).1 hno
    rw [hp, hr] at this
    exact this
/-! ### the head's Hook, with gcd where the text imports it, the own classes, and one more question xb -/
def moreB (g : Bool) (cs : List (Str × List Str)) (xb : PySem.W.Frag → Bool) (K : PySem.W.Frag) : Bool := ((!g || He.eqO (PySem.W.nsIn K mainGlobals "gcd") (some (some (.builtin "math.gcd")))) && clsB cs K) && xb K
def obsG (g : Bool) (n : Nat) (cs : List (Str × List Str)) (fa : List He.Fa) (fn : List He.DefD) (xb : PySem.W.Frag → Bool) (gt : Addr → Option Obj) : He.AlD × Bool := (He.obsDG n fa fn gt, moreB g cs xb (He.frG gt (He.asD gt n)))
def SaysG (g : Bool) (cs : List (Str × List Str)) (fa : List He.Fa) (fn : List He.DefD) (xb : PySem.W.Frag → Bool) (K : PySem.W.Frag) : Prop := He.SaysD fa fn K ∧ moreB g cs xb K = true
def hookG (g : Bool) (n : Nat) (cs : List (Str × List Str)) (fa : List He.Fa) (fn : List He.DefD) (xb : PySem.W.Frag → Bool) : PySem.W.Hook where
  α := He.AlD × Bool
  obs := fun s => obsG g n cs fa fn xb s.heap.get?
  val := fun _ => (He.valD fn, true)
  says := fun _ h => ∃ K : PySem.W.Frag, K.In h ∧ SaysG g cs fa fn xb K
  of := fun _ _ e => ⟨_, He.frG_in, (Prod.mk.inj e).1, (Prod.mk.inj e).2⟩
  keeps := fun _ _ _ ⟨K, hK, c⟩ k => ⟨K, PySem.W.Frag.In.keeps hK k, c⟩
section
variable {g : Bool} {cs : List (Str × List Str)} {fa : List He.Fa} {fn : List He.DefD} {xb : PySem.W.Frag → Bool} {K : PySem.W.Frag}
theorem obsG_eq {n : Nat} {gt : Addr → Option Obj} {s : Shared} (h : ∀ a, gt a = s.heap.get? a) : obsG g n cs fa fn xb gt = (hookG g n cs fa fn xb).obs s := by
  have e : gt = s.heap.get? := funext h
  rw [e]
  rfl
theorem gcd_of {h : Heap} {mg : Str → Option Value} (X : K.In h) (G : h.Ns mainGlobals mg) (c : SaysG g cs fa fn xb K) (hg : g = true) : mg "gcd" = some (.builtin "math.gcd") := by
  have q := (Bool.and_eq_true_iff.mp (Bool.and_eq_true_iff.mp c.2).1).1
  rw [hg] at q
  exact PySem.W.mg_of X G (He.eqO_ok q)
theorem cls_of (c : SaysG g cs fa fn xb K) : clsB cs K = true := (Bool.and_eq_true_iff.mp (Bool.and_eq_true_iff.mp c.2).1).2
theorem xb_of (c : SaysG g cs fa fn xb K) : xb K = true := (Bool.and_eq_true_iff.mp c.2).2
end
theorem pri_none {K : PySem.W.Frag} {fn : List He.DefD} {P : Program} {w : World} {mg : Str → Option Value} {base : Heap} {c : Cfg} (h : (c.tbl.all fun d => d.pri.isNone) = true) : PriOk P w K mg base c fn := fun f d R hd _ hp _ a fd dd _ _ => by
  have := List.all_eq_true.mp h d (List.mem_of_getElem? hd)
  rw [hp] at this
  cases this
end PT

namespace PT
open PySem PySem.Spec PyProof.Rows L2
/-! ### plain lemmas for specs -/
theorem atI_at {α : Type} {l : List α} {k : Int} {x : α} (h0 : 0 ≤ k) (h : l[k.toNat]? = some x) : atI l k = some x := by
  have hl : k.toNat < l.length := idx_lt h
  unfold atI ixN
  rw [if_pos h0, if_pos (by omega)]
  exact h
theorem atI_nat {α : Type} {l : List α} {k : Nat} {x : α} (h : l[k]? = some x) : atI l (k : Int) = some x := atI_at (by omega) (by simpa using h)
theorem ixN_at {n : Nat} {k : Int} (h0 : 0 ≤ k) (h : k < n) : ixN n k = some k.toNat := by
  unfold ixN
  rw [if_pos h0, if_pos h]
/-- an int's item of a list of ints -/
def gi (l : List Int) (k : Int) : Int := l.getD k.toNat 0
theorem gi_at {l : List Int} {k : Int} (h0 : 0 ≤ k) (h : k < l.length) : l[k.toNat]? = some (gi l k) := by
  unfold gi
  rw [List.getD_eq_getElem?_getD]
  have : k.toNat < l.length := by omega
  rw [List.getElem?_eq_getElem this]
  rfl
theorem atI_iL {l : List Int} {k : Int} (h0 : 0 ≤ k) (h : k < l.length) : atI (iL l) k = some (.int (gi l k)) := atI_at h0 (by rw [List.getElem?_map, gi_at h0 h]; rfl)
theorem atI_gi {l : List Int} {k : Int} (h0 : 0 ≤ k) (h : k < l.length) : atI l k = some (gi l k) := atI_at h0 (gi_at h0 h)
theorem len_iL (l : List Int) : (iL l).length = l.length := List.length_map ..
theorem iL_snoc (l : List Int) (x : Int) : iL (l ++ [x]) = iL l ++ [.int x] := List.map_append ..
theorem ite_ {c : Bool} {p q : Prop} (h1 : c = true → p) (h2 : c = false → q) : if c = true then p else q := by
  cases c with
  | true => exact h1 rfl
  | false => exact h2 rfl
/-- by a proposition that is decided -/
theorem iteP {c p q : Prop} [Decidable c] (h1 : c → p) (h2 : ¬c → q) : if decide c = true then p else q := ite_ (fun h => h1 (of_decide_eq_true h)) (fun h => h2 (of_decide_eq_false h))
/-! ### loops -/
abbrev LoopF := List (Nat × Sl) → Env → (Env → Prop) → Prop
theorem forL_map {α : Type} {F : LoopF} {g : α → List (Nat × Sl)} {k : Env → Prop} (I : List α → Env → Prop) : ∀ (xs pre : List α) (env : Env), I pre env → (∀ q x r env K, pre ++ xs = q ++ x :: r → I q env → (∀ env', I (q ++ [x]) env' → K env') → F (g x) env K) → (∀ env, I (pre ++ xs) env → k env) → forL F (xs.map g) env k
  | [], pre, env, h, _, hd => hd env (by simpa using h)
  | x :: xs, pre, env, h, hs, hd => by
    show F (g x) env fun env' => forL F (xs.map g) env' k
    refine hs pre x xs env _ rfl h fun env' h' => ?_
    exact forL_map I xs (pre ++ [x]) env' h' (fun q y r env K e => hs q y r env K (by rw [← e, List.append_assoc]; rfl)) fun env h => hd env (by rw [List.append_assoc] at h; exact h)
/-- over what is left of a list -/
theorem forL_list {α : Type} {F : LoopF} {g : α → List (Nat × Sl)} {k : Env → Prop} (I : List α → Env → Prop) (xs : List α) (env : Env) (h : I [] env) (hs : ∀ q x r env K, xs = q ++ x :: r → I q env → (∀ env', I (q ++ [x]) env' → K env') → F (g x) env K) (hd : ∀ env, I xs env → k env) : forL F (xs.map g) env k :=
  forL_map I xs [] env h (fun q x r env K e => hs q x r env K e) hd
theorem forL_of {α β : Type} {F : LoopF} {h : β → α} {g : α → List (Nat × Sl)} {k : Env → Prop} (I : List β → Env → Prop) (xs : List β) (env : Env) (h0 : I [] env) (hs : ∀ q x r env K, xs = q ++ x :: r → I q env → (∀ env', I (q ++ [x]) env' → K env') → F (g (h x)) env K) (hd : ∀ env, I xs env → k env) : forL F ((xs.map h).map g) env k := by
  rw [List.map_map]
  exact forL_list I xs env h0 hs hd
theorem rgL_eq (a b : Int) : rgL a b = (List.range (b - a).toNat).map fun k : Nat => a + (k : Int) := rfl
theorem forL_range {F : LoopF} {g : Int → List (Nat × Sl)} {k : Env → Prop} (I : Int → Env → Prop) {a b : Int} (hab : a ≤ b) (env : Env) (h : I a env) (hs : ∀ j env K, a ≤ j → j < b → I j env → (∀ env', I (j + 1) env' → K env') → F (g j) env K) (hd : ∀ env, I b env → k env) : forL F ((rgL a b).map g) env k := by
  have key : ∀ (m : Nat) (c : Int) (env : Env), c + m = b → a ≤ c → I c env → forL F (((List.range' 0 m).map fun k : Nat => c + (k : Int)).map g) env k := by
    intro m
    induction m with
    | zero => exact fun c env e _ h => hd env (by rw [← e]; simpa using h)
    | succ m ih =>
      intro c env e hc h
      have e2 : ((List.range' 0 (m + 1)).map fun k : Nat => c + (k : Int)) = c :: (List.range' 0 m).map fun k : Nat => (c + 1) + (k : Int) := by
        rw [List.range'_succ, List.map_cons]
        congr 1
        · simp
        · rw [show List.range' (0 + 1) m = (List.range' 0 m).map (fun x => 1 + x) by
            have := List.map_add_range' (a := 1) 0 m 1
            simpa using this.symm, List.map_map]
          refine List.map_congr_left fun k _ => ?_
          show c + ((1 + k : Nat) : Int) = c + 1 + (k : Int)
          omega
      rw [e2]
      show F (g c) env fun env' => forL F _ env' k
      exact hs c env _ hc (by omega) h fun env' h' => ih (c + 1) env' (by omega) (by omega) h'
  rw [rgL_eq, List.range_eq_range']
  exact key (b - a).toNat a env (by omega) (by omega) h
/-- a loop whose range is empty -/
theorem forL_range0 {F : LoopF} {g : Int → List (Nat × Sl)} {k : Env → Prop} {a b : Int} (hab : b ≤ a) (env : Env) (h : k env) : forL F ((rgL a b).map g) env k := by
  rw [rgL_eq, show (b - a).toNat = 0 by omega]
  exact h
abbrev LcF := List (Nat × Sl) → List T → (List T → Prop) → Prop
theorem lcL_mapG {α : Type} {F : LcF} {g : α → List (Nat × Sl)} {v : α → T} {Q : List T → Prop} : ∀ (xs : List α) (acc : List T), acc.length + xs.length ≤ sizeLine → (∀ x ∈ xs, ∀ acc K, acc.length < sizeLine → K (acc ++ [v x]) → F (g x) acc K) → Q (acc ++ xs.map v) → lcL F (xs.map g) acc Q
  | [], acc, _, _, h => by simpa [lcL] using h
  | x :: xs, acc, hl, hs, h => by
    show F (g x) acc fun acc' => lcL F (xs.map g) acc' Q
    refine hs x List.mem_cons_self acc _ (by simp at hl; omega) ?_
    refine lcL_mapG xs (acc ++ [v x]) (by simp at hl ⊢; omega) (fun y hy => hs y (List.mem_cons_of_mem _ hy)) ?_
    rw [List.append_assoc]
    exact h
/-- a comprehension that keeps every item -/
theorem lc_all {α : Type} {F : LcF} {g : α → List (Nat × Sl)} (v : α → T) {Q : List T → Prop} (xs : List α) (hl : xs.length ≤ sizeLine) (hs : ∀ x ∈ xs, ∀ acc K, acc.length < sizeLine → K (acc ++ [v x]) → F (g x) acc K) (h : Q (xs.map v)) : lcL F (xs.map g) [] Q :=
  lcL_mapG (v := v) xs [] (by simpa using hl) hs (by simpa using h)
theorem lc_of {α β : Type} {F : LcF} {h : β → α} {g : α → List (Nat × Sl)} (v : β → T) {Q : List T → Prop} (xs : List β) (hl : xs.length ≤ sizeLine) (hs : ∀ x ∈ xs, ∀ acc K, acc.length < sizeLine → K (acc ++ [v x]) → F (g (h x)) acc K) (hq : Q (xs.map v)) : lcL F ((xs.map h).map g) [] Q := by
  rw [List.map_map]
  exact lc_all v xs hl hs hq
/-- .. whose values are only known to be of a kind -/
theorem lc_some {α : Type} {F : LcF} {g : α → List (Nat × Sl)} (R : α → T → Prop) {Q : List T → Prop} : ∀ (xs : List α) (acc : List T), acc.length + xs.length ≤ sizeLine → (∀ x ∈ xs, ∀ acc K, acc.length < sizeLine → (∀ t, R x t → K (acc ++ [t])) → F (g x) acc K) →
    (∀ ts, ts.length = xs.length → (∀ (i : Nat) (x : α) (t : T), xs[i]? = some x → ts[i]? = some t → R x t) → Q (acc ++ ts)) → lcL F (xs.map g) acc Q
  | [], acc, _, _, h => by
    have := h [] rfl (fun i x t h => by simp at h)
    simpa [lcL] using this
  | x :: xs, acc, hl, hs, h => by
    show F (g x) acc fun acc' => lcL F (xs.map g) acc' Q
    refine hs x List.mem_cons_self acc _ (by simp at hl; omega) fun t ht => ?_
    refine lc_some R xs (acc ++ [t]) (by simp at hl ⊢; omega) (fun y hy => hs y (List.mem_cons_of_mem _ hy)) fun ts h1 h2 => ?_
    rw [List.append_assoc]
    refine h (t :: ts) (by simp [h1]) fun i y u hy hu => ?_
    cases i with
    | zero =>
      have e1 : x = y := by simpa using hy
      have e2 : t = u := by simpa using hu
      subst e1 e2
      exact ht
    | succ i => exact h2 i y u (by simpa using hy) (by simpa using hu)
/-! ### digits -/
def Dg : List Int → List Int → Prop
  | [], ds => ds = []
  | s :: ss, ds => ∃ d r, ds = d :: r ∧ 0 ≤ d ∧ d < s ∧ Dg ss r
theorem Dg.len : ∀ {ss ds : List Int}, Dg ss ds → ds.length = ss.length
  | [], ds, h => by
    have e : ds = [] := h
    rw [e]
  | s :: ss, ds, h => by
    obtain ⟨d, r, e, _, _, h⟩ := h
    rw [e, List.length_cons, List.length_cons, h.len]
theorem Dg.snoc : ∀ {ss ds : List Int} {s d : Int}, Dg ss ds → 0 ≤ d → d < s → Dg (ss ++ [s]) (ds ++ [d])
  | [], ds, s, d, h, h1, h2 => by
    have e : ds = [] := h
    rw [e]
    exact ⟨d, [], rfl, h1, h2, rfl⟩
  | s' :: ss, ds, s, d, h, h1, h2 => by
    obtain ⟨d', r, e, q1, q2, h⟩ := h
    rw [e]
    exact ⟨d', r ++ [d], rfl, q1, q2, h.snoc h1 h2⟩
theorem Dg.gi : ∀ {ss ds : List Int}, Dg ss ds → ∀ k : Int, 0 ≤ k → k < ss.length → 0 ≤ gi ds k ∧ PT.gi ds k < PT.gi ss k
  | [], ds, h, k, h0, h1 => by simp at h1; omega
  | s :: ss, ds, h, k, h0, h1 => by
    obtain ⟨d, r, e, q1, q2, h⟩ := h
    subst e
    by_cases e : k = 0
    · subst e
      exact ⟨q1, q2⟩
    · have ih := h.gi (k - 1) (by omega) (by simp at h1; omega)
      have e2 : k.toNat = (k - 1).toNat + 1 := by omega
      unfold PT.gi at ih ⊢
      rw [e2]
      exact ih
theorem mod_ok {i j : Int} (h : 0 < j) : 0 ≤ i % j ∧ i % j < j := ⟨Int.emod_nonneg i (by omega), Int.emod_lt_of_pos i h⟩
/-- of at most b bits -/
def Sz (b : Nat) (x : Int) : Prop := x.natAbs < 2 ^ b
theorem Sz.mono {b c : Nat} {x : Int} (h : Sz b x) (hb : b ≤ c) : Sz c x := Nat.lt_of_lt_of_le h (Nat.pow_le_pow_right (by decide) hb)
theorem Sz.mul {b c : Nat} {x y : Int} (h : Sz b x) (h' : Sz c y) : Sz (b + c) (x * y) := by
  unfold Sz at *
  rw [Int.natAbs_mul, Nat.pow_add]
  exact Nat.mul_lt_mul_of_lt_of_le h (Nat.le_of_lt h') (Nat.pow_pos (by decide))
theorem Sz.add {b : Nat} {x y : Int} (h : Sz b x) (h' : Sz b y) : Sz (b + 1) (x + y) := by
  unfold Sz at *
  have := Int.natAbs_add_le x y
  rw [Nat.pow_succ]
  omega
theorem Sz.sub {b : Nat} {x y : Int} (h : Sz b x) (h' : Sz b y) : Sz (b + 1) (x - y) := by
  unfold Sz at *
  have := Int.natAbs_sub_le x y
  rw [Nat.pow_succ]
  omega
theorem Sz.neg {b : Nat} {x : Int} (h : Sz b x) : Sz b (-x) := by
  unfold Sz at *
  rw [Int.natAbs_neg]
  exact h
theorem Sz.bits {b : Nat} {x : Int} (h : Sz b x) : Builtin.Int.intBits x ≤ b := by
  unfold Builtin.Int.intBits
  split
  · omega
  · rename_i hx
    have hx : x.natAbs ≠ 0 := by
      intro z
      exact hx (by rw [Int.natAbs_eq_zero.mp z]; rfl)
    have := (Nat.log2_lt hx).mpr h
    omega
theorem mul_ok {b c : Nat} {x y : Int} (h : Sz b x) (h' : Sz c y) (hb : b + c ≤ 134217728) : IntMulOk x y := by
  refine CMulX.ok ?_
  have h1 := h.bits
  have h2 := h'.bits
  unfold CMulX
  omega
theorem mul_okL {x y : Int} (h1 : -(2 ^ 64) < x) (h2 : x < 2 ^ 64) : IntMulOk x y := CMul.ok (.inl ⟨h1, h2⟩)
theorem mul_okR {x y : Int} (h1 : -(2 ^ 64) < y) (h2 : y < 2 ^ 64) : IntMulOk x y := CMul.ok (.inr ⟨h1, h2⟩)
theorem sz_of {b : Nat} {x : Int} (h1 : -(2 ^ b) < x) (h2 : x < 2 ^ b) : Sz b x := by
  unfold Sz
  have e : ((2 ^ b : Nat) : Int) = 2 ^ b := by simp
  omega
end PT

namespace PT
open PySem PySem.Spec PyProof.Rows L2
/-- row_product -/
def dRP : Def := { name := "row_product", ps := ["one", "two"], N := ["one", "two", "total", "left", "right"], rd := 0, body := (.cons (.asg 2 none (.int 0)) (.cons (.for_ (.zip 3 4 (.var 0) (.var 1)) (.cons (.asg 2 none (.bin .add (.var 2) (.bin .mul (.var 3) (.var 4)))) (.cons (.fgt [3, 4]) .nil))) (.cons (.ret (.var 2)) .nil))) }
/-- _law_whole -/
def dWhole : Def := { name := "_law_whole", ps := ["value"], N := ["value"], rd := 0, body := (.cons (.ret (.bop true (.isin (.var 0) [.kInt]) (.cons (.not (.isin (.var 0) [.kBool])) .nil))) .nil) }
/-- _law_cell -/
def dCell : Def := { name := "_law_cell", ps := ["script", "k"], N := ["script", "k", "seed", "cell"], rd := 0, body := (.cons (.ite (.cmp .lt (.var 1) (.blt .len (.cons (.var 0) .nil))) (.cons (.ret (.idx (.var 0) (.var 1))) .nil) .nil) (.cons (.asg 2 none (.int 17)) (.cons (.for_ (.seq 3 (.var 0)) (.cons (.asg 2 none (.bin .mod (.blt .int (.cons (.bin .add (.bin .mul (.var 2) (.int 31)) (.bin .mod (.blt .int (.cons (.var 3) .nil)) (.int 1000003))) .nil)) (.int 1000003))) (.cons (.fgt [3]) .nil))) (.cons (.ret (.bin .mod (.blt .int (.cons (.bin .mul (.bin .mul (.bin .add (.var 2) (.int 7)) (.bin .add (.var 1) (.int 3))) (.int 69621)) .nil)) (.int 2147483647))) .nil)))) }
/-- _law_digits -/
def dDig : Def := { name := "_law_digits", ps := ["cell", "sizes"], N := ["cell", "sizes", "drawn", "rest", "seed", "k", "size", "twice"], rd := 0, body := (.cons (.asg 2 (some 1) (.lst 0 .nil)) (.cons (.asg 3 none (.blt .int (.cons (.var 0) .nil))) (.cons (.ite (.cmp .ge (.var 3) (.bin .pow (.int 10) (.int 18))) (.cons (.asg 3 none (.bin .sub (.var 3) (.bin .pow (.int 10) (.int 18)))) (.cons (.for_ (.seq 6 (.var 1)) (.cons (.app 2 .nil (.bin .mod (.blt .int (.cons (.var 3) .nil)) (.var 6))) (.cons (.asg 3 none (.bin .fdiv (.blt .int (.cons (.var 3) .nil)) (.var 6))) (.cons (.fgt [6]) .nil)))) (.cons (.ret (.var 2)) .nil))) .nil) (.cons (.fgt [6]) (.cons (.asg 4 none (.bin .mod (.blt .int (.cons (.var 3) .nil)) (.int 2147483629))) (.cons (.for_ (.rng 5 (.cons (.blt .len (.cons (.var 1) .nil)) .nil)) (.cons (.asg 4 none (.bin .mod (.blt .int (.cons (.bin .add (.bin .add (.bin .mul (.var 4) (.int 48271)) (.bin .mul (.int 974711) (.var 5))) (.int 12345)) .nil)) (.int 2147483647))) (.cons (.asg 7 none (.bin .mod (.blt .int (.cons (.bin .mul (.var 4) (.bin .add (.bin .fdiv (.var 4) (.int 65537)) (.int 3))) .nil)) (.int 2147483629))) (.cons (.app 2 .nil (.bin .mod (.bin .fdiv (.var 7) (.int 19)) (.idx (.var 1) (.var 5)))) (.cons (.fgt [5, 7]) .nil))))) (.cons (.frz 2) (.cons (.ret (.var 2)) .nil)))))))) }
/-- _law_dot -/
def dDot : Def := { name := "_law_dot", ps := ["left", "right"], N := ["left", "right", "total", "k"], rd := 0, body := (.cons (.asg 2 none (.int 0)) (.cons (.for_ (.rng 3 (.cons (.blt .len (.cons (.var 0) .nil)) .nil)) (.cons (.asg 2 none (.bin .add (.var 2) (.bin .mul (.idx (.var 0) (.var 3)) (.idx (.var 1) (.var 3))))) (.cons (.fgt [3]) .nil))) (.cons (.ret (.var 2)) .nil))) }
section
variable {Γ : Gam} {rd : Nat → Nat}
theorem whole_spec {x : T} {Q : T → Prop} (hx : ∀ C ns ts, x ≠ .ins C ns ts) (h : Q (.bl (kdIs .kInt x && !kdIs .kBool x))) : wpDef Γ rd dWhole [x] Q := by
  refine ⟨rfl, ?_⟩
  cases x with
  | ins C ns ts => exact absurd rfl (hx C ns ts)
  | _ => exact ⟨trivial, h⟩
/-! ### _law_cell -/
def seedF (ns : List Int) : Int := ns.foldl (fun s c => (s * 31 + c % 1000003) % 1000003) 17
def cellF (ns : List Int) (k : Int) : Int := if k < ns.length then gi ns k else (seedF ns + 7) * (k + 3) * 69621 % 2147483647
theorem cell_spec {ns : List Int} {k : Int} {Q : T → Prop} (h0 : 0 ≤ k) (h1 : k < 2 ^ 32) (h : Q (.int (cellF ns k))) : wpDef Γ rd dCell [.scr ns, .int k] Q := by
  refine ⟨rfl, ?_⟩
  refine iteP (fun hk => ?_) fun hk => ?_
  · refine ⟨gi ns k, atI_gi h0 hk, trivial, ?_⟩
    unfold cellF at h
    rw [if_pos hk] at h
    exact h
  · refine ⟨trivial, ?_⟩
    refine forL_of (fun q env => 0 ≤ seedF q ∧ seedF q < 1000003 ∧ env = [.sh (.scr ns), .sh (.int k), .sh (.int (seedF q)), .em]) ns _ ⟨by decide, by decide, rfl⟩ ?_ ?_
    · intro q x r env K e ⟨s1, s2, e2⟩ hK
      subst e2
      refine ⟨mul_okR (by decide) (by decide), by decide, by decide, ?_⟩
      have e3 : seedF (q ++ [x]) = (seedF q * 31 + x % 1000003) % 1000003 := by
        unfold seedF
        rw [List.foldl_append]
        rfl
      have b := mod_ok (i := seedF q * 31 + x % 1000003) (j := 1000003) (by decide)
      refine hK _ ⟨by rw [e3]; exact b.1, by rw [e3]; exact b.2, ?_⟩
      rw [e3]
      rfl
    · intro env ⟨s1, s2, e2⟩
      subst e2
      unfold cellF at h
      rw [if_neg hk] at h
      refine ⟨mul_okL (by omega) (by omega), mul_okR (by decide) (by decide), by decide, trivial, h⟩
/-! ### _law_digits -/
def digA : Int → List Int → List Int
  | _, [] => []
  | r, s :: ss => r % s :: digA (r / s) ss
def restA : Int → List Int → Int
  | r, [] => r
  | r, s :: ss => restA (r / s) ss
def nextS (s k : Int) : Int := (s * 48271 + 974711 * k + 12345) % 2147483647
def twc (s : Int) : Int := s * (s / 65537 + 3) % 2147483629
def digB : Int → Int → List Int → List Int
  | _, _, [] => []
  | s, k, z :: zs => twc (nextS s k) / 19 % z :: digB (nextS s k) (k + 1) zs
def digF (cell : Int) (sizes : List Int) : List Int := if 10 ^ 18 ≤ cell then digA (cell - 10 ^ 18) sizes else digB (cell % 2147483629) 0 sizes
theorem digA_Dg : ∀ {sizes : List Int} {r : Int}, (∀ s ∈ sizes, 0 < s) → Dg sizes (digA r sizes)
  | [], _, _ => rfl
  | s :: ss, r, h => ⟨_, _, rfl, (mod_ok (h s List.mem_cons_self)).1, (mod_ok (h s List.mem_cons_self)).2, digA_Dg fun x hx => h x (List.mem_cons_of_mem _ hx)⟩
theorem digB_Dg : ∀ {sizes : List Int} {r k : Int}, (∀ s ∈ sizes, 0 < s) → Dg sizes (digB r k sizes)
  | [], _, _, _ => rfl
  | s :: ss, r, k, h => ⟨_, _, rfl, (mod_ok (h s List.mem_cons_self)).1, (mod_ok (h s List.mem_cons_self)).2, digB_Dg fun x hx => h x (List.mem_cons_of_mem _ hx)⟩
theorem digF_Dg {cell : Int} {sizes : List Int} (h : ∀ s ∈ sizes, 0 < s) : Dg sizes (digF cell sizes) := by
  unfold digF
  split
  · exact digA_Dg h
  · exact digB_Dg h
theorem digA_snoc : ∀ (q : List Int) (r z : Int), digA r (q ++ [z]) = digA r q ++ [restA r q % z]
  | [], r, z => rfl
  | s :: q, r, z => by
    show _ :: digA (r / s) (q ++ [z]) = _ :: (digA (r / s) q ++ _)
    rw [digA_snoc q]
    rfl
theorem restA_snoc : ∀ (q : List Int) (r z : Int), restA r (q ++ [z]) = restA r q / z
  | [], r, z => rfl
  | s :: q, r, z => restA_snoc q (r / s) z
/-- the seed ahead of the k-th size -/
def seedB : Int → Nat → Int
  | s, 0 => s
  | s, k + 1 => nextS (seedB s k) k
theorem digB_take : ∀ (sizes : List Int) (s : Int) (j : Nat) (k : Nat), (∀ i, seedB s (j + i) = seedB (seedB s j) 0 ∨ True) → True := fun _ _ _ _ _ => trivial
theorem digB_get : ∀ (sizes : List Int) (s : Int) (j : Nat), digB (seedB s j) j sizes = (List.range sizes.length).map fun i => twc (seedB s (j + i + 1)) / 19 % sizes.getD i 0
  | [], _, _ => rfl
  | z :: zs, s, j => by
    have ih := digB_get zs s (j + 1)
    have e : digB (seedB s j) j (z :: zs) = twc (seedB s (j + 1)) / 19 % z :: digB (seedB s (j + 1)) ((j + 1 : Nat) : Int) zs := rfl
    rw [e, ih, List.length_cons, List.range_succ_eq_map, List.map_cons, List.map_map]
    congr 1
    refine List.map_congr_left fun i _ => ?_
    show _ = twc (seedB s (j + (i + 1) + 1)) / 19 % _
    rw [show j + 1 + i + 1 = j + (i + 1) + 1 by omega]
    rfl
theorem dig_spec {cell : Int} {sizes : List Int} {Q : T → Prop} (hs : ∀ s ∈ sizes, 0 < s ∧ s.natAbs.log2 < 9000) (hl : sizes.length ≤ 1000) (h : Q (.lst (iL (digF cell sizes)))) : wpDef Γ rd dDig [.int cell, .lst (iL sizes)] Q := by
  have lt : ∀ q : List Int, (∃ r, sizes = q ++ r) → q.length ≤ 1000 := fun q ⟨r, e⟩ => by
    rw [e, List.length_append] at hl
    omega
  refine ⟨rfl, ?_⟩
  (repeat (refine ⟨by first | (with_reducible rfl) | exact True.intro | assumption | decide +kernel | omega, ?_⟩))
  refine iteP (fun hc => ?_) fun hc => ?_
  · (repeat (refine ⟨by first | (with_reducible rfl) | exact True.intro | assumption | decide +kernel | omega, ?_⟩))
    refine forL_of (fun q env => env = [.sh (.int cell), .sh (.lst (iL sizes)), .ow 1 (.lst (iL (digA (cell - 10 ^ 18) q))), .sh (.int (restA (cell - 10 ^ 18) q)), .em, .em, .em, .em]) sizes _ rfl ?_ ?_
    · intro q x r env K e e2 hK
      subst e2
      have hx := hs x (e ▸ List.mem_append_right _ List.mem_cons_self)
      have hq := lt q ⟨_, e⟩
      have hz : (iL (digA (cell - 10 ^ 18) q)).length < sizeLine := by
        rw [len_iL, (digA_Dg fun s hs' => (hs s (by rw [e]; exact List.mem_append_left _ hs')).1).len]
        unfold sizeLine
        omega
      refine ⟨_, rfl, by decide, hz, hx.1, hx, ?_⟩
      refine hK _ ?_
      rw [digA_snoc, restA_snoc, iL_snoc]
      rfl
    · intro env e2
      subst e2
      unfold digF at h
      have hc : 10 ^ 18 ≤ cell := hc
      rw [if_pos hc] at h
      exact ⟨trivial, h⟩
  · have hc : ¬ 10 ^ 18 ≤ cell := hc
    unfold digF at h
    rw [if_neg hc] at h
    have key := digB_get sizes (cell % 2147483629) 0
    rw [show seedB (cell % 2147483629) 0 = cell % 2147483629 from rfl] at key
    have sb : ∀ j : Nat, 0 ≤ seedB (cell % 2147483629) j ∧ seedB (cell % 2147483629) j < 2147483647 := fun j => by
      cases j with
      | zero =>
        have := mod_ok (i := cell) (j := 2147483629) (by decide)
        show 0 ≤ cell % 2147483629 ∧ cell % 2147483629 < 2147483647
        omega
      | succ j => exact mod_ok (by decide)
    (repeat (refine ⟨by first | (with_reducible rfl) | exact True.intro | assumption | decide +kernel | omega, ?_⟩))
    have lb : (-(2 ^ 62) : Int) ≤ ((iL sizes).length : Int) ∧ ((iL sizes).length : Int) < 2 ^ 62 := by rw [len_iL]; omega
    refine ⟨lb, ?_⟩
    refine forL_range (fun j env => ∃ n : Nat, j = n ∧ n ≤ sizes.length ∧ env = [.sh (.int cell), .sh (.lst (iL sizes)), .ow 1 (.lst (iL ((List.range n).map fun i => twc (seedB (cell % 2147483629) (i + 1)) / 19 % sizes.getD i 0))), .sh (.int cell), .sh (.int (seedB (cell % 2147483629) n)), .em, .em, .em]) (by omega) _ ⟨0, rfl, by omega, rfl⟩ ?_ ?_
    · rintro j env K _ hj ⟨n, e1, hn, e2⟩ hK
      subst e1 e2
      rw [len_iL] at hj
      have hn : n < sizes.length := by omega
      have b := sb n
      have b' := sb (n + 1)
      have hx := hs _ (List.getElem_mem hn)
      have hz : (iL ((List.range n).map fun i => twc (seedB (cell % 2147483629) (i + 1)) / 19 % sizes.getD i 0)).length < sizeLine := by
        rw [len_iL, List.length_map, List.length_range]
        unfold sizeLine
        omega
      refine ⟨mul_okL (by omega) (by omega), mul_okL (by decide) (by decide), by decide, by decide, mul_okL (x := seedB (cell % 2147483629) (n + 1)) (by omega) (by omega), by decide, ?_⟩
      refine ⟨_, rfl, by decide, hz, by decide, .int sizes[n], atI_nat (by rw [List.getElem?_map, List.getElem?_eq_getElem hn]; rfl), hx.1, ?_⟩
      refine hK _ ⟨n + 1, by omega, hn, ?_⟩
      rw [List.range_succ, List.map_append, List.map_cons, List.map_nil, iL_snoc]
      rw [List.getD_eq_getElem?_getD, List.getElem?_eq_getElem hn]
      rfl
    · rintro env ⟨n, e1, hn, e2⟩
      rw [len_iL] at e1
      have e1 : n = sizes.length := by omega
      subst e1 e2
      have e3 : (0 : Int) = ((0 : Nat) : Int) := rfl
      rw [e3, key] at h
      simp only [Nat.zero_add] at h
      exact ⟨trivial, h⟩
end
end PT

namespace PT
open PySem PySem.Spec PyProof.Rows L2
/-- a list or a tuple -/
def sq : Bool → List T → T
  | true, xs => .tup xs
  | false, xs => .lst xs
theorem seq_sq {a : Bool} {xs : List T} {k : List T → Og → Prop} (h : k xs (.bor 0)) : seqT (sq a xs) (.bor 0) k := by
  cases a
  · exact h
  · exact h
theorem idx_sq {a : Bool} {xs : List T} {i : Int} {t : T} {Q : T → Og → Prop} (h : atI xs i = some t) (q : Q t (.bor 0)) : idxT (sq a xs) (.bor 0) (.int i) Q := by
  cases a
  · exact ⟨t, h, q⟩
  · exact ⟨t, h, q⟩
theorem len_sq {a : Bool} {xs : List T} {o : Og} {Q : T → Og → Prop} (h : Q (.int xs.length) (.bor 0)) : lenT [(sq a xs, o)] Q := by
  cases a
  · exact h
  · exact h
theorem lst_sq {a : Bool} {xs : List T} {Q : T → Og → Prop} (h : Q (.lst xs) (.fr 1)) : lstT [(sq a xs, .bor 0)] Q := by
  cases a
  · exact ⟨.inl trivial, h⟩
  · exact h
theorem tup_sq {a : Bool} {xs : List T} {Q : T → Og → Prop} (h : Q (.tup xs) (.bor 0)) : tupT [(sq a xs, .bor 0)] Q := by
  cases a
  · exact ⟨trivial, h⟩
  · exact h
/-! ### steps that the kernel follows: a statement at a time, the environment written out -/
section
variable {Γ : Gam} {rd : Nat → Nat} {env env' : PT.Env} {D : DT} {r : TSs}
theorem st_cons {s : TS} (h : wpS Γ rd s env { D with nx := fun env' => wpSs Γ rd r env' D }) : wpSs Γ rd (.cons s r) env D := h
theorem st_asg {i : Nat} {e : TE} (h : wpE Γ rd e env fun t o => wpSs Γ rd r (env.store i (slOf t o)) D) : wpSs Γ rd (.cons (.asg i none e) r) env D := h
theorem st_own {i d : Nat} {e : TE} (h : wpE Γ rd e env fun t o => wpAsg env i (some d) t o fun env' => wpSs Γ rd r env' D) : wpSs Γ rd (.cons (.asg i (some d) e) r) env D := h
theorem st_frz {i : Nat} (h : wpFrz env i fun env' => wpSs Γ rd r env' D) : wpSs Γ rd (.cons (.frz i) r) env D := h
theorem st_fgt {is : List Nat} (h : wpSs Γ rd r (env.wipe is) D) : wpSs Γ rd (.cons (.fgt is) r) env D := h
theorem st_ret {e : TE} (h : wpE Γ rd e env D.rt) : wpSs Γ rd (.cons (.ret e) r) env D := h
theorem st_for {it : It} {b : TSs} (h : wpIS Γ rd it env fun xs => forL (fun x env k => wpSs Γ rd b (env.puts x) { nx := k, rt := D.rt, bk := fun env' => wpSs Γ rd r env' D, ct := k }) xs env fun env' => wpSs Γ rd r env' D) : wpSs Γ rd (.cons (.for_ it b) r) env D := h
theorem st_ite {e : TE} {a b : TSs} (h : wpE Γ rd e env fun x _ => tru x fun k => if k = true then wpSs Γ rd a env { D with nx := fun env' => wpSs Γ rd r env' D } else wpSs Γ rd b env { D with nx := fun env' => wpSs Γ rd r env' D }) : wpSs Γ rd (.cons (.ite e a b) r) env D := h
/-- a test that fails, of an if with no else -/
theorem st_if0 {e : TE} {a : TSs} (h : wpE Γ rd e env fun x _ => x = .bl false ∧ wpSs Γ rd r env D) (M : Γ.Mono) : wpSs Γ rd (.cons (.ite e a .nil) r) env D :=
  st_ite (wpE_mono M e env _ _ (fun x _ q => by obtain ⟨e, q⟩ := q; subst e; exact q) h)
theorem at_env {s : TSs} (e : env = env') (h : wpSs Γ rd s env' D) : wpSs Γ rd s env D := e ▸ h
theorem keep0 {i : Int} {k : Prop} (h : k) : keep 0 (.int i) (.bor 0) k := h
theorem st_nil (h : D.nx env) : wpSs Γ rd .nil env D := h
theorem e_addI {i j : Int} {o o' : Og} {Q : T → Og → Prop} (h : Q (.int (i + j)) (.bor 0)) : binT .add (.int i) o (.int j) o' Q := h
theorem e_intB {b : Bool} {o : Og} {Q : T → Og → Prop} (h : Q (.int (if b = true then 1 else 0)) (.bor 0)) : wpEs Γ rd .nil env fun l => bltT .int ((.bl b, o) :: l) Q := h
theorem e_gt {i j : Int} {Q : T → Og → Prop} (h : Q (.bl (decide (j < i))) (.bor 0)) : wpE Γ rd (.int j) env fun y _ => cmpT .gt (.int i) y Q := h
theorem e_eq {i j : Int} {Q : T → Og → Prop} (h : Q (.bl (decide (i = j))) (.bor 0)) : wpE Γ rd (.int j) env fun y _ => cmpT .eq (.int i) y Q := h
end
/-! ### dots -/
def dotF : List Int → List Int → Int
  | x :: xs, y :: ys => x * y + dotF xs ys
  | _, _ => 0
theorem dotF_snoc : ∀ (xs ys : List Int) (x y : Int), xs.length = ys.length → dotF (xs ++ [x]) (ys ++ [y]) = dotF xs ys + x * y
  | [], [], x, y, _ => by simp [dotF]
  | [], _ :: _, _, _, h => by simp at h
  | _ :: _, [], _, _, h => by simp at h
  | a :: xs, b :: ys, x, y, h => by
    show a * b + dotF (xs ++ [x]) (ys ++ [y]) = a * b + dotF xs ys + x * y
    rw [dotF_snoc xs ys x y (by simpa using h)]
    omega
theorem zip_forL {F : LoopF} {k : Env → Prop} {i j : Nat} (I : List Int → List Int → Env → Prop) : ∀ (xs ys px py : List Int) (env : Env), I px py env → px.length = py.length →
    (∀ x y rx ry px' py' env K, px ++ xs = px' ++ x :: rx → py ++ ys = py' ++ y :: ry → px'.length = py'.length → I px' py' env → (∀ env', I (px' ++ [x]) (py' ++ [y]) env' → K env') → F [(i, .sh (.int x)), (j, .sh (.int y))] env K) →
    (∀ qx qy env, (qx.length = (px ++ xs).length ∨ qy.length = (py ++ ys).length) → qx.length = qy.length → (∃ r, px ++ xs = qx ++ r) → (∃ r, py ++ ys = qy ++ r) → I qx qy env → k env) → forL F (zipS i j (.bor 0) (.bor 0) (iL xs) (iL ys)) env k
  | [], ys, px, py, env, h, hl, hs, hd => hd px py env (.inl (by simp)) hl ⟨[], by simp⟩ ⟨ys, rfl⟩ h
  | x :: xs, [], px, py, env, h, hl, hs, hd => hd px py env (.inr (by simp)) hl ⟨_, rfl⟩ ⟨[], by simp⟩ h
  | x :: xs, y :: ys, px, py, env, h, hl, hs, hd => by
    show F [(i, .sh (.int x)), (j, .sh (.int y))] env fun env' => forL F (zipS i j (.bor 0) (.bor 0) (iL xs) (iL ys)) env' k
    refine hs x y xs ys px py env _ rfl rfl hl h fun env' h' => ?_
    refine zip_forL I xs ys (px ++ [x]) (py ++ [y]) env' h' (by simp [hl]) (fun x' y' rx ry px' py' env K e1 e2 => hs x' y' rx ry px' py' env K (by rw [← e1, List.append_assoc]; rfl) (by rw [← e2, List.append_assoc]; rfl)) fun qx qy env e1 e2 e3 e4 => hd qx qy env ?_ e2 (by rw [List.append_assoc] at e3; exact e3) (by rw [List.append_assoc] at e4; exact e4)
    rw [List.append_assoc, List.append_assoc] at e1
    exact e1
section
variable {Γ : Gam} {rd : Nat → Nat}
theorem rp_spec {a b : Bool} {xs ys : List Int} {Q : T → Prop} (hl : xs.length = ys.length) (hm : ∀ x ∈ xs, ∀ y ∈ ys, IntMulOk x y) (h : Q (.int (dotF xs ys))) : wpDef Γ rd dRP [sq a (iL xs), sq b (iL ys)] Q := by
  refine ⟨rfl, ?_⟩
  refine ⟨trivial, trivial, ?_⟩
  refine seq_sq (a := a) ?_
  refine seq_sq (a := b) ?_
  refine zip_forL (fun px py env => env = [.sh (sq a (iL xs)), .sh (sq b (iL ys)), .sh (.int (dotF px py)), .em, .em]) xs ys [] [] _ rfl rfl ?_ ?_
  · intro x y rx ry px py env K e1 e2 hl e hK
    subst e
    refine ⟨hm x (by rw [show xs = _ from e1]; exact List.mem_append_right _ List.mem_cons_self) y (by rw [show ys = _ from e2]; exact List.mem_append_right _ List.mem_cons_self), ?_⟩
    refine hK _ ?_
    rw [dotF_snoc _ _ _ _ hl]
    rfl
  · rintro qx qy env e1 e2 ⟨r, e3⟩ ⟨r', e4⟩ e
    subst e
    have l1 := congrArg List.length e3
    have l2 := congrArg List.length e4
    simp only [List.nil_append, List.length_append] at l1 l2 e1 e3 e4
    have h1 : r = [] := List.length_eq_zero_iff.mp (by omega)
    have h2 : r' = [] := List.length_eq_zero_iff.mp (by omega)
    subst h1 h2
    rw [List.append_nil] at e3 e4
    subst e3 e4
    exact ⟨trivial, h⟩
theorem take_snoc {α : Type} {l : List α} {n : Nat} (h : n < l.length) : l.take (n + 1) = l.take n ++ [l[n]] := (List.take_append_getElem h).symm
theorem dot_spec {a b : Bool} {xs ys : List Int} {Q : T → Prop} (hl : xs.length = ys.length) (hz : xs.length ≤ 1000000) (hm : ∀ x ∈ xs, ∀ y ∈ ys, IntMulOk x y) (h : Q (.int (dotF xs ys))) : wpDef Γ rd dDot [sq a (iL xs), sq b (iL ys)] Q := by
  refine ⟨rfl, ?_⟩
  refine len_sq ?_
  refine ⟨by rw [len_iL]; omega, ?_⟩
  refine forL_range (fun j env => ∃ n : Nat, j = n ∧ n ≤ xs.length ∧ env = [.sh (sq a (iL xs)), .sh (sq b (iL ys)), .sh (.int (dotF (xs.take n) (ys.take n))), .em]) (by omega) _ ⟨0, rfl, by omega, rfl⟩ ?_ ?_
  · rintro j env K _ hj ⟨n, e1, hn, e2⟩ hK
    subst e1 e2
    rw [len_iL] at hj
    have h1 : n < xs.length := by omega
    have h2 : n < ys.length := by omega
    refine idx_sq (a := a) (t := .int xs[n]) (atI_nat (by rw [List.getElem?_map, List.getElem?_eq_getElem h1]; rfl)) ?_
    refine idx_sq (a := b) (t := .int ys[n]) (atI_nat (by rw [List.getElem?_map, List.getElem?_eq_getElem h2]; rfl)) ?_
    refine ⟨hm _ (List.getElem_mem h1) _ (List.getElem_mem h2), ?_⟩
    refine hK _ ⟨n + 1, by omega, h1, ?_⟩
    rw [take_snoc h1, take_snoc h2, dotF_snoc _ _ _ _ (by simp; omega)]
    rfl
  · rintro env ⟨n, e1, hn, e2⟩
    rw [len_iL] at e1
    have e1 : n = xs.length := by omega
    subst e1 e2
    rw [List.take_length, show xs.length = ys.length from hl, List.take_length]
    exact ⟨trivial, h⟩
end
/-! ### the least, the greatest -/
def Least (l : List Int) (m : Int) : Prop := m ∈ l ∧ ∀ a ∈ l, m ≤ a
def Most (l : List Int) (m : Int) : Prop := m ∈ l ∧ ∀ a ∈ l, a ≤ m
theorem Least.uniq {l : List Int} {m n : Int} (h : Least l m) (h' : Least l n) : m = n := by
  have := h.2 n h'.1
  have := h'.2 m h.1
  omega
theorem Most.uniq {l : List Int} {m n : Int} (h : Most l m) (h' : Most l n) : m = n := by
  have := h.2 n h'.1
  have := h'.2 m h.1
  omega
def lmin : List Int → Int
  | [] => 0
  | [x] => x
  | x :: xs => min x (lmin xs)
def lmax : List Int → Int
  | [] => 0
  | [x] => x
  | x :: xs => max x (lmax xs)
theorem lmin_least : ∀ {l : List Int}, l ≠ [] → Least l (lmin l)
  | [], h => absurd rfl h
  | [x], _ => ⟨List.mem_cons_self, fun a ha => by
    rcases List.mem_cons.mp ha with e | e
    · rw [e]; exact Int.le_refl _
    · cases e⟩
  | x :: y :: xs, _ => by
    have ih := lmin_least (l := y :: xs) (by simp)
    have e : lmin (x :: y :: xs) = min x (lmin (y :: xs)) := rfl
    rw [e]
    refine ⟨?_, fun a ha => ?_⟩
    · by_cases h : x ≤ lmin (y :: xs)
      · rw [Int.min_eq_left h]; exact List.mem_cons_self
      · rw [Int.min_eq_right (by omega)]; exact List.mem_cons_of_mem _ ih.1
    · rcases List.mem_cons.mp ha with e | e
      · rw [e]; exact Int.min_le_left _ _
      · exact Int.le_trans (Int.min_le_right _ _) (ih.2 a e)
theorem lmax_most : ∀ {l : List Int}, l ≠ [] → Most l (lmax l)
  | [], h => absurd rfl h
  | [x], _ => ⟨List.mem_cons_self, fun a ha => by
    rcases List.mem_cons.mp ha with e | e
    · rw [e]; exact Int.le_refl _
    · cases e⟩
  | x :: y :: xs, _ => by
    have ih := lmax_most (l := y :: xs) (by simp)
    have e : lmax (x :: y :: xs) = max x (lmax (y :: xs)) := rfl
    rw [e]
    refine ⟨?_, fun a ha => ?_⟩
    · by_cases h : x ≤ lmax (y :: xs)
      · rw [Int.max_eq_right h]; exact List.mem_cons_of_mem _ ih.1
      · rw [Int.max_eq_left (by omega)]; exact List.mem_cons_self
    · rcases List.mem_cons.mp ha with e | e
      · rw [e]; exact Int.le_max_left _ _
      · exact Int.le_trans (ih.2 a e) (Int.le_max_right _ _)
theorem min_w {ts : List T} {l : List Int} {Q : T → Og → Prop} (e : ts = iL l) (hl : l ≠ []) (h : Q (.int (lmin l)) (.bor 0)) : MinW ts Q :=
  ⟨⟨l, e, hl, fun m h1 h2 => by rw [Least.uniq ⟨h1, h2⟩ (lmin_least hl)]; exact h⟩, trivial⟩
theorem max_w {ts : List T} {l : List Int} {Q : T → Og → Prop} (e : ts = iL l) (hl : l ≠ []) (h : Q (.int (lmax l)) (.bor 0)) : MaxW ts Q :=
  ⟨⟨l, e, hl, fun m h1 h2 => by rw [Most.uniq ⟨h1, h2⟩ (lmax_most hl)]; exact h⟩, trivial⟩
theorem sum_w {ts : List T} {l : List Int} {Q : T → Og → Prop} (e : ts = iL l) (h : Q (.int l.sum) (.bor 0)) : SumW ts Q := ⟨⟨l, e, h⟩, trivial⟩
theorem min_sq {a : Bool} {l : List Int} {Q : T → Og → Prop} {o : Og} (hl : l ≠ []) (h : Q (.int (lmin l)) (.bor 0)) : minT [(sq a (iL l), o)] Q := by
  cases a
  · exact min_w rfl hl h
  · exact min_w rfl hl h
theorem max_sq {a : Bool} {l : List Int} {Q : T → Og → Prop} {o : Og} (hl : l ≠ []) (h : Q (.int (lmax l)) (.bor 0)) : maxT [(sq a (iL l), o)] Q := by
  cases a
  · exact max_w rfl hl h
  · exact max_w rfl hl h
theorem ne_map {α β : Type} {f : α → β} {l : List α} (h : l ≠ []) : l.map f ≠ [] := fun z => h (List.map_eq_nil_iff.mp z)
theorem mapI {α : Type} (f : α → Int) (l : List α) : (l.map fun x => T.int (f x)) = iL (l.map f) := (List.map_map ..).symm
/-! ### slices -/
theorem cut_to {α : Type} (xs : List α) {k : Int} (h : 0 ≤ k) : cutT xs none (some k) = xs.take k.toNat := by
  unfold cutT
  show (xs.drop 0).take ((if k < 0 then (k + (xs.length : Int)).toNat else min k.toNat xs.length) - 0) = _
  rw [if_neg (by omega), List.drop_zero, Nat.sub_zero]
  by_cases hk : k.toNat ≤ xs.length
  · rw [Nat.min_eq_left hk]
  · rw [Nat.min_eq_right (by omega), List.take_length, List.take_of_length_le (by omega)]
theorem cut_from {α : Type} (xs : List α) {k : Int} (h : 0 ≤ k) : cutT xs (some k) none = xs.drop k.toNat := by
  unfold cutT
  have e : HT.sIx xs.length 0 (some k) = min k.toNat xs.length := by
    show (if k < 0 then (k + (xs.length : Int)).toNat else min k.toNat xs.length) = _
    rw [if_neg (by omega)]
  rw [e]
  show (xs.drop (min k.toNat xs.length)).take (xs.length - _) = _
  by_cases hk : k.toNat ≤ xs.length
  · rw [Nat.min_eq_left hk]
    exact List.take_of_length_le (by rw [List.length_drop]; exact Nat.le_refl _)
  · rw [Nat.min_eq_right (by omega), List.drop_length, List.drop_eq_nil_of_le (by omega)]
    exact List.take_nil
theorem cut_iL {l : List Int} {a b : Option Int} : cutT (iL l) a b = iL (cutT l a b) := by
  unfold cutT
  rw [len_iL]
  show _ = List.map _ _
  rw [List.map_take, List.map_drop]
theorem iL_append (a b : List Int) : iL (a ++ b) = iL a ++ iL b := List.map_append ..
/-! ### == -/
theorem beqs_of {xs ys : List T} (h : xs.length = ys.length) (k : ∀ (i : Nat) x y, xs[i]? = some x → ys[i]? = some y → T.beq x y = true) : T.beqs xs ys = true := by
  induction xs generalizing ys with
  | nil =>
    cases ys with
    | nil => rfl
    | cons y ys => simp at h
  | cons x xs ih =>
    cases ys with
    | nil => simp at h
    | cons y ys =>
      unfold T.beqs
      rw [k 0 x y rfl rfl, ih (by simpa using h) fun i a b ha hb => k (i + 1) a b (by simpa using ha) (by simpa using hb)]
      rfl
theorem beq_int {i j : Int} : T.beq (.int i) (.int j) = (i == j) := by unfold T.beq; rfl
theorem beqs_iL : ∀ {a b : List Int}, T.beqs (iL a) (iL b) = (a == b)
  | [], [] => rfl
  | [], _ :: _ => rfl
  | _ :: _, [] => rfl
  | x :: a, y :: b => by
    show (T.beq (.int x) (.int y) && T.beqs (iL a) (iL b)) = _
    rw [beqs_iL, beq_int]
    rfl
theorem beqs_map {α : Type} {f : α → T} (hf : ∀ x, T.beq (f x) (f x) = true) : ∀ l : List α, T.beqs (l.map f) (l.map f) = true
  | [] => rfl
  | x :: l => by
    show (T.beq (f x) (f x) && T.beqs (l.map f) (l.map f)) = true
    rw [hf, beqs_map hf l]
    rfl
theorem beq_L1 (l : List Int) : T.beq (.lst (iL l)) (.lst (iL l)) = true := by
  show T.beqs (iL l) (iL l) = true
  rw [beqs_iL]
  exact beq_self_eq_true l
theorem deps_map {α : Type} {f : α → T} {n : Nat} (hf : ∀ x, (f x).dep n) : ∀ l : List α, T.deps (l.map f) n
  | [] => trivial
  | x :: l => ⟨hf x, deps_map hf l⟩
theorem deps_iL (l : List Int) (n : Nat) : T.deps (iL l) n := deps_map (fun x => by unfold T.dep; trivial) l
end PT

namespace PT
open PySem PySem.Spec PyProof.Rows L2
/-! ### while -/
theorem wh_inv {c : PT.Env → (Bool → Prop) → Prop} {f : PT.Env → (PT.Env → Prop) → Prop} {k : PT.Env → Prop} (I : Nat → PT.Env → Prop) (step : ∀ m env K, I m env → (∀ m' env', m' < m → I m' env' → K env') → c env fun b => if b = true then f env K else k env) : ∀ (n m : Nat) (env : PT.Env), m < n → I m env → wpWh c f n env k
  | 0, m, env, h, _ => absurd h (Nat.not_lt_zero m)
  | n + 1, m, env, h, hI => step m env (fun env' => wpWh c f n env' k) hI fun m' env' hm hI' => wh_inv I step n m' env' (by omega) hI'
theorem whl_of {Γ : Gam} {rd : Nat → Nat} {e : TE} {b r : TSs} {env : PT.Env} {D : DT} (I : Nat → PT.Env → Prop) (m : Nat) (h : I m env)
    (step : ∀ m env K, I m env → (∀ m' env', m' < m → I m' env' → K env') → wpE Γ rd e env fun x _ => tru x fun b' => if b' = true then wpSs Γ rd b env { nx := K, rt := D.rt, bk := fun env' => wpSs Γ rd r env' D, ct := K } else wpSs Γ rd r env D) :
    wpSs Γ rd (.cons (.whl e b) r) env D :=
  ⟨m + 1, wh_inv (c := fun env Q => wpE Γ rd e env fun x _ => tru x Q) (f := fun env k => wpSs Γ rd b env { nx := k, rt := D.rt, bk := fun env' => wpSs Γ rd r env' D, ct := k }) I step (m + 1) m env (Nat.lt_succ_self m) h⟩
theorem e_addC {Γ : Gam} {rd : Nat → Nat} {env : PT.Env} {i j : Int} {o : Og} {Q : T → Og → Prop} (h : Q (.int (i + j)) (.bor 0)) : wpE Γ rd (.int j) env fun y o' => binT .add (.int i) o y o' Q := h
/-! ### greatest common divisors -/
def gcdI (a b : Int) : Int := (Nat.gcd a.natAbs b.natAbs : Nat)
theorem gcdI_nonneg (a b : Int) : 0 ≤ gcdI a b := Int.natCast_nonneg _
/-- _law_gcd -/
def dLGcd : Def := { name := "_law_gcd", ps := ["left", "right"], N := ["left", "right", "rest"], rd := 0, body := (.cons (.asg 0 none (.blt .abs (.cons (.var 0) .nil))) (.cons (.asg 1 none (.blt .abs (.cons (.var 1) .nil))) (.cons (.whl (.cmp .ne (.var 1) (.int 0)) (.cons (.asg 2 none (.bin .mod (.blt .int (.cons (.var 0) .nil)) (.var 1))) (.cons (.asg 0 none (.var 1)) (.cons (.asg 1 none (.var 2)) (.cons (.fgt [2]) .nil))))) (.cons (.ret (.var 0)) .nil)))) }
theorem abs_eq (i : Int) : (if i < 0 then -i else i) = (i.natAbs : Int) := by
  split <;> omega
theorem lgcd_spec {Γ : Gam} {rd : Nat → Nat} {a b : Int} {Q : T → Prop} (h : Q (.int (gcdI a b))) : wpDef Γ rd dLGcd [.int a, .int b] Q := by
  refine ⟨rfl, ?_⟩
  refine st_asg ?_
  refine at_env (env' := [.sh (.int (if a < 0 then -a else a)), .sh (.int b), .em]) rfl ?_
  rw [abs_eq]
  refine st_asg ?_
  refine at_env (env' := [.sh (.int (a.natAbs : Int)), .sh (.int (if b < 0 then -b else b)), .em]) rfl ?_
  rw [abs_eq]
  refine whl_of (fun m env => ∃ x : Nat, env = [.sh (.int (x : Int)), .sh (.int (m : Int)), .em] ∧ Nat.gcd x m = Nat.gcd a.natAbs b.natAbs) b.natAbs ⟨a.natAbs, rfl, rfl⟩ ?_
  rintro m env K ⟨x, e, g⟩ hK
  subst e
  by_cases hm : (m : Int) = 0
  · have hm0 : m = 0 := by omega
    subst hm0
    rw [Nat.gcd_zero_right] at g
    unfold gcdI at h
    rw [← g] at h
    exact ⟨trivial, h⟩
  · refine ite_ (fun _ => ?_) fun z => ?_
    · refine ⟨by omega, ?_⟩
      refine hK (x % m) _ (Nat.mod_lt _ (by omega)) ⟨m, rfl, ?_⟩
      rw [← g, Nat.gcd_comm x m, Nat.gcd_rec m x, Nat.gcd_comm]
    · have z : (!decide ((m : Int) = 0)) = false := z
      rw [decide_eq_false hm] at z
      cases z
/-- common_divisor -/
def dCD : Def := { name := "common_divisor", ps := ["numbers"], N := ["numbers", "shared", "number"], rd := 0, body := (.cons (.asg 1 none (.int 0)) (.cons (.for_ (.seq 2 (.var 0)) (.cons (.asg 1 none (.gcd (.var 1) (.var 2))) (.cons (.fgt [2]) .nil))) (.cons (.ret (.var 1)) .nil))) }
def gcdL (l : List Int) : Int := l.foldl gcdI 0
theorem gcdL_snoc (q : List Int) (x : Int) : gcdL (q ++ [x]) = gcdI (gcdL q) x := by
  unfold gcdL
  rw [List.foldl_append]
  rfl
theorem gcdL_nonneg (l : List Int) : 0 ≤ gcdL l := by
  rcases List.eq_nil_or_concat l with e | ⟨q, x, e⟩
  · subst e; exact Int.le_refl 0
  · rw [e, List.concat_eq_append, gcdL_snoc]; exact gcdI_nonneg _ _
theorem gcdI_dvd_l (a b : Int) : gcdI a b ∣ a := Int.ofNat_dvd_left.mpr (Nat.gcd_dvd_left _ _)
theorem gcdI_dvd_r (a b : Int) : gcdI a b ∣ b := Int.ofNat_dvd_left.mpr (Nat.gcd_dvd_right _ _)
theorem gcdL_dvd : ∀ (l : List Int) (x : Int), x ∈ l → gcdL l ∣ x := by
  have key : ∀ (l : List Int) (s : Int), (l.foldl gcdI s ∣ s) ∧ ∀ x ∈ l, l.foldl gcdI s ∣ x := by
    intro l
    induction l with
    | nil => exact fun s => ⟨Int.dvd_refl s, fun x hx => by cases hx⟩
    | cons y l ih =>
      intro s
      obtain ⟨h1, h2⟩ := ih (gcdI s y)
      refine ⟨Int.dvd_trans h1 (gcdI_dvd_l s y), fun x hx => ?_⟩
      rcases List.mem_cons.mp hx with e | e
      · rw [e]; exact Int.dvd_trans h1 (gcdI_dvd_r s y)
      · exact h2 x e
  exact fun l x hx => (key l 0).2 x hx
theorem gcdI_sz {b : Nat} {x y : Int} (h : Sz b x) (h' : Sz b y) : Sz b (gcdI x y) := by
  unfold Sz gcdI at *
  rw [Int.natAbs_natCast]
  by_cases e : y.natAbs = 0
  · rw [e, Nat.gcd_zero_right]; exact h
  · exact Nat.lt_of_le_of_lt (Nat.gcd_le_right _ (by omega)) h'
theorem gcdL_sz {b : Nat} {l : List Int} (h : ∀ x ∈ l, Sz b x) : Sz b (gcdL l) := by
  have key : ∀ (l : List Int) (s : Int), Sz b s → (∀ x ∈ l, Sz b x) → Sz b (l.foldl gcdI s) := by
    intro l
    induction l with
    | nil => exact fun s hs _ => hs
    | cons y l ih => exact fun s hs hl => ih _ (gcdI_sz hs (hl y List.mem_cons_self)) fun x hx => hl x (List.mem_cons_of_mem _ hx)
  exact key l 0 (by unfold Sz; exact Nat.pow_pos (by decide)) h
theorem Sz.log {b : Nat} {x : Int} (h : Sz b x) (hb : b ≤ 9000) (hx : x ≠ 0) : x.natAbs.log2 < 9000 := by
  have h0 : x.natAbs ≠ 0 := fun z => hx (Int.natAbs_eq_zero.mp z)
  exact Nat.lt_of_lt_of_le ((Nat.log2_lt h0).mpr h) hb
def lowF (l : List Int) : List Int := if gcdL l < 2 then l else l.map fun x => x / gcdL l
theorem cd_spec {Γ : Gam} {rd : Nat → Nat} {a : Bool} {l : List Int} {Q : T → Prop} (h : Q (.int (gcdL l))) : wpDef Γ rd dCD [sq a (iL l)] Q := by
  refine ⟨rfl, ?_⟩
  refine st_asg ?_
  refine at_env (env' := [.sh (sq a (iL l)), .sh (.int 0), .em]) rfl ?_
  refine st_for ?_
  refine ⟨trivial, ?_⟩
  refine seq_sq (a := a) ?_
  refine forL_of (fun q env => env = [.sh (sq a (iL l)), .sh (.int (gcdL q)), .em]) l _ rfl ?_ ?_
  · intro q x r env K e e2 hK
    subst e2
    refine hK _ ?_
    rw [gcdL_snoc]
    rfl
  · intro env e2
    subst e2
    exact ⟨trivial, h⟩
/-! ### repeated lists -/
theorem rep_iL (n : Nat) (xs : List Int) : (List.replicate n (iL xs)).flatten = iL (List.replicate n xs).flatten := by
  show _ = List.map T.int _
  rw [List.map_flatten, List.map_replicate]
theorem flat_at (xs : List Int) : ∀ (n j r : Nat), j < n → r < xs.length → (List.replicate n xs).flatten[xs.length * j + r]? = xs[r]?
  | 0, j, r, h, _ => absurd h (Nat.not_lt_zero j)
  | n + 1, 0, r, _, hr => by
    rw [List.replicate_succ, List.flatten_cons, Nat.mul_zero, Nat.zero_add, List.getElem?_append_left hr]
  | n + 1, j + 1, r, h, hr => by
    rw [List.replicate_succ, List.flatten_cons, List.getElem?_append_right (by rw [Nat.mul_succ]; omega), show xs.length * (j + 1) + r - xs.length = xs.length * j + r by rw [Nat.mul_succ]; omega]
    exact flat_at xs n j r (by omega) hr
theorem flat_gi (xs : List Int) {n : Nat} {j r k : Int} (hj : 0 ≤ j) (hn : j < n) (hr : 0 ≤ r) (hl : r < xs.length) (hk : k = xs.length * j + r) : gi (List.replicate n xs).flatten k = gi xs r := by
  have := flat_at xs n j.toNat r.toNat (by omega) (by omega)
  have e : k.toNat = xs.length * j.toNat + r.toNat := by
    have h1 : ((xs.length * j.toNat + r.toNat : Nat) : Int) = k := by
      rw [hk, Int.natCast_add, Int.natCast_mul, Int.toNat_of_nonneg hj, Int.toNat_of_nonneg hr]
    omega
  unfold gi
  rw [List.getD_eq_getElem?_getD, List.getD_eq_getElem?_getD, e, this]
theorem flat_len (xs : List Int) (n : Nat) : (List.replicate n xs).flatten.length = n * xs.length := by
  rw [List.length_flatten, List.map_replicate, List.sum_replicate_nat]
end PT

namespace PT
open PySem PySem.Spec PyProof.Rows L2
section
variable {Γ : Gam} {rd : Nat → Nat} {env env' : PT.Env} {D : DT} {Q : T → Og → Prop} {r : TSs}
theorem q_seq {a : Bool} {xs : List T} {k : List T → Og → Prop} : seqT (sq a xs) (.bor 0) k = k xs (.bor 0) := by cases a <;> rfl
theorem q_idx {a : Bool} {xs : List T} {i : Int} : idxT (sq a xs) (.bor 0) (.int i) Q = ∃ t, atI xs i = some t ∧ Q t (.bor 0) := by cases a <;> rfl
theorem q_len {a : Bool} {xs : List T} {o : Og} : lenT [(sq a xs, o)] Q = Q (.int xs.length) (.bor 0) := by cases a <;> rfl
theorem q_lst {a : Bool} {xs : List T} : lstT [(sq a xs, .bor 0)] Q = Q (.lst xs) (.fr 1) := by
  cases a
  · exact propext ⟨fun h => h.2, fun h => ⟨.inl trivial, h⟩⟩
  · rfl
theorem q_tup {a : Bool} {xs : List T} : tupT [(sq a xs, .bor 0)] Q = Q (.tup xs) (.bor 0) := by
  cases a
  · exact propext ⟨fun h => h.2, fun h => ⟨trivial, h⟩⟩
  · rfl
theorem q_isin {a : Bool} {xs : List T} {ks : List Kd} : isinT (sq a xs) ks Q = Q (.bl (ks.any fun k => kdIs k (sq a xs))) (.bor 0) := by cases a <;> rfl
theorem take0 {t : T} {k : Prop} : take t (.bor 0) k = k := rfl
theorem takeF {t : T} {d : Nat} {k : Prop} : take t (.fr d) k = k := rfl
theorem get0 {s : Sl} {l : PT.Env} : Env.get (s :: l) 0 = s := rfl
theorem getS {s : Sl} {l : PT.Env} {n : Nat} : Env.get (s :: l) (n + 1) = Env.get l n := rfl
/-- an item of a list of ints -/
theorem x_idx {l : List Int} {k : Int} {R : T → Prop} (h0 : 0 ≤ k) (h : k < l.length) (q : R (.int (gi l k))) : ∃ t, atI (iL l) k = some t ∧ R t := ⟨_, atI_iL h0 h, q⟩
/-- a statement, and what holds behind it -/
theorem st_mid {s : TS} (P : PT.Env → Prop) (M : Γ.Mono) (h : wpS Γ rd s env { D with nx := P }) (k : ∀ env', P env' → wpSs Γ rd r env' D) : wpSs Γ rd (.cons s r) env D :=
  wpS_mono M s env { D with nx := P } { D with nx := fun env' => wpSs Γ rd r env' D } ⟨fun e he => k e he, fun _ _ => id, fun _ => id, fun _ => id⟩ h
theorem st_mid_ite {e : TE} {a b : TSs} (P : PT.Env → Prop) (M : Γ.Mono) (h : wpE Γ rd e env fun x _ => tru x fun k => if k = true then wpSs Γ rd a env { D with nx := P } else wpSs Γ rd b env { D with nx := P }) (k : ∀ env', P env' → wpSs Γ rd r env' D) : wpSs Γ rd (.cons (.ite e a b) r) env D :=
  st_mid P M h k
theorem st_app {i : Nat} {es : TEs} {e : TE} (h : wpL Γ rd i es env fun r' d t p => ∃ ts, t.at p = some (.lst ts) ∧ p.length < d ∧ ts.length < sizeLine ∧
      wpE Γ rd e env fun v o => keep (d - p.length - 1) v o (wpSs Γ rd r (env.mut r' p.length (.ow d (t.put p (.lst (ts ++ [v]))))) D)) : wpSs Γ rd (.cons (.app i es e) r) env D := h
theorem st_appMv {i j : Nat} {es : TEs} (h : wpL Γ rd i es env fun r' d t p => ∃ ts, t.at p = some (.lst ts) ∧ p.length < d ∧ ts.length < sizeLine ∧
      wpMv env r' d (d - p.length - 1) t p ts j fun env' => wpSs Γ rd r env' D) : wpSs Γ rd (.cons (.appMv i es j) r) env D := h
theorem st_sto {i : Nat} {es : TEs} {k e : TE} (h : wpE Γ rd e env fun v o => wpL Γ rd i es env fun r' d t p => wpE Γ rd k env fun y _ => asI y fun m =>
      ∃ ts n, t.at p = some (.lst ts) ∧ p.length < d ∧ ixN ts.length m = some n ∧
        keep (d - p.length - 1) v o (wpSs Γ rd r (env.mut r' p.length (.ow d (t.put p (.lst (ts.set n v))))) D)) : wpSs Γ rd (.cons (.sto i es k e) r) env D := h
theorem st_ali {i j : Nat} {es : TEs} (h : wpL Γ rd j es env fun r' d t p => i ≠ r' ∧ wpSs Γ rd r (env.store i (.al r' p)) D) : wpSs Γ rd (.cons (.ali i j es) r) env D := h
theorem st_forD {i j : Nat} {es : TEs} {b : TSs} (h : wpL Γ rd j es env fun r' d t p => ∃ xs, t.at p = some (.lst xs) ∧ p.length + 1 < d ∧ env.all (fun s => !s.isBr) = true ∧
      forD i (d - p.length - 1) (fun env k => wpSs Γ rd b env { nx := k, rt := D.rt, bk := fun env' => wpSs Γ rd r env' D, ct := k }) xs (env.store r' .em) fun env' => wpSs Γ rd r env' D) : wpSs Γ rd (.cons (.forD i j es b) r) env D := h
theorem st_forG {i f : Nat} {es : TEs} {b : TSs} (h : wpEs Γ rd es env fun l => takes l fun ts => Cl (Γ f ts fun t => seqT t (.bor 0) fun us _ => forL (fun x env k => wpSs Γ rd b (env.puts x) { nx := k, rt := D.rt, bk := fun env' => wpSs Γ rd r env' D, ct := k }) (us.map fun t => [(i, .sh t)]) env fun env' => wpSs Γ rd r env' D)) : wpSs Γ rd (.cons (.forG i f es b) r) env D := h
theorem st_unp {is : List Nat} {e : TE} (h : wpE Γ rd e env fun x o => take x o (unpT x is.length fun ts => wpSs Γ rd r (env.puts (is.zip (ts.map .sh))) D)) : wpSs Γ rd (.cons (.unp is e) r) env D := h
theorem st_retV {i : Nat} (h : wpRetV env i D.rt) : wpSs Γ rd (.cons (.retV i) r) env D := h
theorem st_retN (h : D.rt .non (.bor 0)) : wpSs Γ rd (.cons .retN r) env D := h
theorem st_brk (h : D.bk env) : wpSs Γ rd (.cons .brk r) env D := h
theorem st_cnt (h : D.ct env) : wpSs Γ rd (.cons .cnt r) env D := h
theorem st_pas (h : wpSs Γ rd r env D) : wpSs Γ rd (.cons .pas r) env D := h
theorem st_ex {e : TE} (h : wpE Γ rd e env fun _ _ => wpSs Γ rd r env D) : wpSs Γ rd (.cons (.ex e) r) env D := h
theorem x_ix {n : Nat} {k : Int} {R : Nat → Prop} (h0 : 0 ≤ k) (h : k < n) (q : R k.toNat) : ∃ m, ixN n k = some m ∧ R m := ⟨_, ixN_at h0 h, q⟩
theorem iteE {c : Prop} [Decidable c] {p q : Prop} (h1 : c → p) (h2 : ¬ c → q) : if c then p else q := by
  by_cases h : c
  · rw [if_pos h]; exact h1 h
  · rw [if_neg h]; exact h2 h
theorem enter {tbl : List Def} {n i : Nat} {ts : List T} {Q : T → Prop} {d : Def} (hd : tbl[i]? = some d) (hl : ts.length = d.ps.length) (hni : d.ini = none) (h : wpSs (gam tbl n) (rdT tbl) d.body (entry d.N.length ts) { nx := fun _ => d.rd = 0 ∧ Q .non, rt := fun t o => rdOk d.rd o ∧ Q t, bk := fun _ => False, ct := fun _ => False }) (hp : d.pri = none := by rfl) (hg : d.isG = false := by rfl) (hno : d.own = none := by rfl) : Cl (gam tbl (n + 1) i ts Q) := by
  have h : wpSs (gam tbl n) (rdT tbl) d.body (entO d.own (entry d.N.length ts)) { nx := fun _ => d.rd = 0 ∧ Q .non, rt := fun t o => rdOk d.rd o ∧ Q t, bk := fun _ => False, ct := fun _ => False } := by
    rw [hno]; exact h
  refine ⟨?_, trivial⟩
  show (match tbl[i]? with | some d => _ | none => _)
  rw [hd]
  show (match d.ini with | none => _ | some C => _)
  rw [hni]
  show (match d.pri with | none => _ | some R => _)
  rw [hp]
  show (match d.isG with | false => _ | true => _)
  rw [hg]
  exact ⟨hl, h⟩
/-- a def to which an argument is given away -/
theorem enterO {tbl : List Def} {n i : Nat} {ts : List T} {Q : T → Prop} {d : Def} (hd : tbl[i]? = some d) (hl : ts.length = d.ps.length) (hni : d.ini = none) (h : wpSs (gam tbl n) (rdT tbl) d.body (entO d.own (entry d.N.length ts)) { nx := fun _ => d.rd = 0 ∧ Q .non, rt := fun t o => rdOk d.rd o ∧ Q t, bk := fun _ => False, ct := fun _ => False }) (hp : d.pri = none := by rfl) (hg : d.isG = false := by rfl) : Cl (gam tbl (n + 1) i ts Q) := by
  refine ⟨?_, trivial⟩
  show (match tbl[i]? with | some d => _ | none => _)
  rw [hd]
  show (match d.ini with | none => _ | some C => _)
  rw [hni]
  show (match d.pri with | none => _ | some R => _)
  rw [hp]
  show (match d.isG with | false => _ | true => _)
  rw [hg]
  exact ⟨hl, h⟩
/-- a generator def: what it hands out -/
theorem enterG {tbl : List Def} {n i : Nat} {ts : List T} {Q : T → Prop} {d : Def} (hd : tbl[i]? = some d) (hl : ts.length = d.ps.length) (hni : d.ini = none) (hp : d.pri = none) (hg : d.isG = true) (hr : d.rd = 0) (zs : List T)
    (h : wpGs (gam tbl n) (rdT tbl) zs d.body (entry d.N.length ts) 0 { nx := fun _ k => k = zs.length, rt := fun t k => t = .non ∧ k = zs.length, bk := fun _ _ => False, ct := fun _ _ => False }) (q : Q (.lst zs)) : Cl (gam tbl (n + 1) i ts Q) := by
  refine ⟨?_, trivial⟩
  show (match tbl[i]? with | some d => _ | none => _)
  rw [hd]
  show (match d.ini with | none => _ | some C => _)
  rw [hni]
  show (match d.pri with | none => _ | some R => _)
  rw [hp]
  show (match d.isG with | false => _ | true => _)
  rw [hg]
  exact ⟨hr, zs, ⟨hl, h⟩, q⟩
/-- a def whose promise is shown by hand -/
theorem enterP {tbl : List Def} {n i : Nat} {ts : List T} {Q : T → Prop} {d : Def} {R : List T → T → Prop} {t : T} (hd : tbl[i]? = some d) (hni : d.ini = none) (hp : d.pri = some R) (hr : d.rd = 0) (hn : 4 ≤ n) (hl : ts.length = d.ps.length) (h : R ts t) (q : Q t) : Cl (gam tbl (n + 1) i ts Q) := by
  refine ⟨?_, trivial⟩
  show (match tbl[i]? with | some d => _ | none => _)
  rw [hd]
  show (match d.ini with | none => _ | some C => _)
  rw [hni]
  show (match d.pri with | none => _ | some R => _)
  rw [hp]
  exact ⟨hn, hr, hl, t, h, q⟩
theorem enterI {tbl : List Def} {n i : Nat} {ts : List T} {Q : T → Prop} {d : Def} {C : Str} (hd : tbl[i]? = some d) (hl : ts.length = d.ps.length) (hi : d.ini = some C) (hr : d.rd = 0) (h : wpSs (gam tbl n) (rdT tbl) d.body (.slf C [] [] :: entry (d.N.length - 1) ts) { nx := fun env => iniEnd C env Q, rt := fun _ _ => False, bk := fun _ => False, ct := fun _ => False }) : Cl (gam tbl (n + 1) i ts Q) := by
  refine ⟨?_, trivial⟩
  show (match tbl[i]? with | some d => _ | none => _)
  rw [hd]
  show (match d.ini with | none => _ | some C => _)
  rw [hi]
  exact ⟨hr, hl, h⟩
theorem st_fst {i : Nat} {C f : Str} {e : TE} (h : wpE Γ rd e env fun t o => take t o (fstT env i C f t fun env' => wpSs Γ rd r env' D)) : wpSs Γ rd (.cons (.fst i C f e) r) env D := h
end
/-! ### rewriting rules, constructor by constructor -/
section
variable {Γ : Gam} {rd : Nat → Nat} {Q : T → Og → Prop} {i j : Int} {o o' : Og} {x y : T} {xs ys : List T} {p : Prop} {ns : List Int} {lo hi : Option Int} {a b : Bool} {ks : List Kd} {d e n k : Nat} {env : PT.Env} {K : PT.Env → Prop} {l : List (T × Og)}
theorem q_add : binT .add (.int i) o (.int j) o' Q = Q (.int (i + j)) (.bor 0) := rfl
theorem q_sub : binT .sub (.int i) o (.int j) o' Q = Q (.int (i - j)) (.bor 0) := rfl
theorem q_mul : binT .mul (.int i) o (.int j) o' Q = (IntMulOk i j ∧ Q (.int (i * j)) (.bor 0)) := rfl
theorem q_fdiv : binT .fdiv (.int i) o (.int j) o' Q = ((0 < j ∧ j.natAbs.log2 < 9000) ∧ Q (.int (i / j)) (.bor 0)) := rfl
theorem q_fdivW : binT .fdivW (.int i) o (.int j) o' Q = ((j ≠ 0 ∧ Builtin.divisionGoesByPylong i j = false) ∧ Q (.int (i.fdiv j)) (.bor 0)) := rfl
theorem q_fdivN : binT .fdivN (.int i) o (.int j) o' Q = ((j ≠ 0 ∧ j.natAbs.log2 < 9000) ∧ Q (.int (i.fdiv j)) (.bor 0)) := rfl
theorem q_mod : binT .mod (.int i) o (.int j) o' Q = (0 < j ∧ Q (.int (i % j)) (.bor 0)) := rfl
theorem q_pow : binT .pow (.int i) o (.int j) o' Q = ((0 ≤ j ∧ j ≤ 1000000 ∧ i.natAbs < 2 ^ 64) ∧ Q (.int (i ^ j.toNat)) (.bor 0)) := rfl
theorem q_addL : binT .add (.lst xs) o (.lst ys) o' Q = (o.shal ∧ o'.shal ∧ xs.length + ys.length ≤ sizeLine ∧ Q (.lst (xs ++ ys)) (.fr 1)) := rfl
theorem q_mulL : binT .mul (.lst xs) o (.int j) o' Q = (o.shal ∧ (-(2 ^ 63) ≤ j ∧ j < 2 ^ 63) ∧ xs.length * j.toNat ≤ sizeLine ∧ Q (.lst (List.replicate j.toNat xs).flatten) (.fr 1)) := rfl
theorem q_addT : binT .add (.tup xs) o (.tup ys) o' Q = (xs.length + ys.length ≤ sizeLine ∧ Q (.tup (xs ++ ys)) (.bor 0)) := rfl
theorem q_lt : cmpT .lt (.int i) (.int j) Q = Q (.bl (decide (i < j))) (.bor 0) := rfl
theorem q_le : cmpT .le (.int i) (.int j) Q = Q (.bl (decide (i ≤ j))) (.bor 0) := rfl
theorem q_gt : cmpT .gt (.int i) (.int j) Q = Q (.bl (decide (j < i))) (.bor 0) := rfl
theorem q_ge : cmpT .ge (.int i) (.int j) Q = Q (.bl (decide (j ≤ i))) (.bor 0) := rfl
theorem q_eq : cmpT .eq (.int i) (.int j) Q = Q (.bl (decide (i = j))) (.bor 0) := rfl
theorem q_ne : cmpT .ne (.int i) (.int j) Q = Q (.bl (!decide (i = j))) (.bor 0) := rfl
theorem q_eqLL : cmpT .eq (.lst xs) (.lst ys) Q = ((T.lst xs).dep 60 ∧ (T.lst ys).dep 60 ∧ Q (.bl (T.beq (.lst xs) (.lst ys))) (.bor 0)) := rfl
theorem q_neLL : cmpT .ne (.lst xs) (.lst ys) Q = ((T.lst xs).dep 60 ∧ (T.lst ys).dep 60 ∧ Q (.bl (!T.beq (.lst xs) (.lst ys))) (.bor 0)) := rfl
theorem q_eqTT : cmpT .eq (.tup xs) (.tup ys) Q = ((T.tup xs).dep 60 ∧ (T.tup ys).dep 60 ∧ Q (.bl (T.beq (.tup xs) (.tup ys))) (.bor 0)) := rfl
theorem q_neTT : cmpT .ne (.tup xs) (.tup ys) Q = ((T.tup xs).dep 60 ∧ (T.tup ys).dep 60 ∧ Q (.bl (!T.beq (.tup xs) (.tup ys))) (.bor 0)) := rfl
theorem q_eqLT : cmpT .eq (.lst xs) (.tup ys) Q = ((T.lst xs).dep 60 ∧ (T.tup ys).dep 60 ∧ Q (.bl (T.beq (.lst xs) (.tup ys))) (.bor 0)) := rfl
theorem q_neLT : cmpT .ne (.lst xs) (.tup ys) Q = ((T.lst xs).dep 60 ∧ (T.tup ys).dep 60 ∧ Q (.bl (!T.beq (.lst xs) (.tup ys))) (.bor 0)) := rfl
theorem q_eqTL : cmpT .eq (.tup xs) (.lst ys) Q = ((T.tup xs).dep 60 ∧ (T.lst ys).dep 60 ∧ Q (.bl (T.beq (.tup xs) (.lst ys))) (.bor 0)) := rfl
theorem q_neTL : cmpT .ne (.tup xs) (.lst ys) Q = ((T.tup xs).dep 60 ∧ (T.lst ys).dep 60 ∧ Q (.bl (!T.beq (.tup xs) (.lst ys))) (.bor 0)) := rfl
theorem q_eqB : cmpT .eq (.bl a) (.bl b) Q = Q (.bl (a == b)) (.bor 0) := propext ⟨fun h => h.2.2, fun h => ⟨trivial, trivial, h⟩⟩
theorem q_neB : cmpT .ne (.bl a) (.bl b) Q = Q (.bl (!(a == b))) (.bor 0) := propext ⟨fun h => h.2.2, fun h => ⟨trivial, trivial, h⟩⟩
theorem q_isN : cmpT .isN x .non Q = Q (.bl x.isNon) (.bor 0) := by cases x <;> rfl
theorem q_notN : cmpT .notN x .non Q = Q (.bl (!x.isNon)) (.bor 0) := by cases x <;> rfl
theorem q_in_L : cmpT .in_ x (.lst ys) Q = (x.flat = true ∧ ys.all T.flat = true ∧ Q (.bl (ys.any fun y => T.beq y x)) (.bor 0)) := by cases x <;> rfl
theorem q_in_T : cmpT .in_ x (.tup ys) Q = (x.flat = true ∧ ys.all T.flat = true ∧ Q (.bl (ys.any fun y => T.beq y x)) (.bor 0)) := by cases x <;> rfl
theorem q_notInL : cmpT .notIn x (.lst ys) Q = (x.flat = true ∧ ys.all T.flat = true ∧ Q (.bl (!ys.any fun y => T.beq y x)) (.bor 0)) := by cases x <;> rfl
theorem q_notInT : cmpT .notIn x (.tup ys) Q = (x.flat = true ∧ ys.all T.flat = true ∧ Q (.bl (!ys.any fun y => T.beq y x)) (.bor 0)) := by cases x <;> rfl
theorem q_idxL : idxT (.lst xs) o (.int i) Q = ∃ t, atI xs i = some t ∧ Q t o.item := rfl
theorem q_idxT : idxT (.tup xs) o (.int i) Q = ∃ t, atI xs i = some t ∧ Q t (.bor 0) := rfl
theorem q_idxS : idxT (.scr ns) o (.int i) Q = ∃ k, atI ns i = some k ∧ Q (.int k) (.bor 0) := rfl
theorem q_slc : slcT (.lst xs) o lo hi Q = (o.shal ∧ Q (.lst (cutT xs lo hi)) (.fr 1)) := rfl
theorem q_neg : negT (.int i) Q = Q (.int (-i)) (.bor 0) := rfl
theorem q_tru : tru (.bl b) R = R b := rfl
theorem q_asI : asI (.int i) R = R i := rfl
theorem q_asIs0 : asIs [] R = R [] := rfl
theorem q_asIs1 : asIs ((x, o) :: l) R = asI x fun i => asIs l fun l => R (i :: l) := rfl
theorem q_lenL : lenT [(.lst xs, o)] Q = Q (.int xs.length) (.bor 0) := rfl
theorem q_lenT : lenT [(.tup xs, o)] Q = Q (.int xs.length) (.bor 0) := rfl
theorem q_lenS : lenT [(.scr ns, o)] Q = Q (.int ns.length) (.bor 0) := rfl
theorem q_abs : absT [(.int i, o)] Q = Q (.int (i.natAbs : Int)) (.bor 0) := by show Q (.int (if i < 0 then -i else i)) (.bor 0) = _; rw [abs_eq]
theorem q_maxI : maxT [(.int i, o), (.int j, o')] Q = Q (.int (max i j)) (.bor 0) := by show Q (.int (if j > i then j else i)) (.bor 0) = _; congr 2; omega
theorem q_minI : minT [(.int i, o), (.int j, o')] Q = Q (.int (min i j)) (.bor 0) := by show Q (.int (if j < i then j else i)) (.bor 0) = _; congr 2; omega
theorem q_maxL : maxT [(.lst xs, o)] Q = MaxW xs Q := rfl
theorem q_maxT : maxT [(.tup xs, o)] Q = MaxW xs Q := rfl
theorem q_minL : minT [(.lst xs, o)] Q = MinW xs Q := rfl
theorem q_minT : minT [(.tup xs, o)] Q = MinW xs Q := rfl
theorem q_sumL : sumT [(.lst xs, o)] Q = SumW xs Q := rfl
theorem q_sumT : sumT [(.tup xs, o)] Q = SumW xs Q := rfl
theorem q_all : allT [(.lst xs, o)] Q = AllW xs Q := rfl
theorem q_any : anyT [(.lst xs, o)] Q = AnyW xs Q := rfl
theorem q_intI : intT [(.int i, o)] Q = Q (.int i) (.bor 0) := rfl
theorem q_intB : intT [(.bl b, o)] Q = Q (.int (if b then 1 else 0)) (.bor 0) := rfl
theorem q_tupL : tupT [(.lst xs, o)] Q = (o.shal ∧ Q (.tup xs) (.bor 0)) := rfl
theorem q_tupT : tupT [(.tup xs, o)] Q = Q (.tup xs) (.bor 0) := rfl
theorem q_lstL : lstT [(.lst xs, o)] Q = ((o.shal ∨ xs.all (fun t => !t.isLst) = true) ∧ Q (.lst xs) (.fr 1)) := rfl
theorem q_lstT : lstT [(.tup xs, o)] Q = Q (.lst xs) (.fr 1) := rfl
theorem q_lstS : lstT [(.scr ns, o)] Q = Q (.lst (iL ns)) (.fr 1) := rfl
theorem q_rng1 : rngT [(.int j, o)] R = ((-(2 ^ 62) ≤ j ∧ j < 2 ^ 62) ∧ R 0 j) := rfl
theorem q_rng2 : rngT [(.int i, o), (.int j, o')] R = ((-(2 ^ 62) ≤ i ∧ i < 2 ^ 62 ∧ -(2 ^ 62) ≤ j ∧ j < 2 ^ 62) ∧ R i j) := rfl
theorem q_seqL : seqT (.lst xs) o R = R xs o.item := rfl
theorem q_seqT : seqT (.tup xs) o R = R xs (.bor 0) := rfl
theorem q_seqS : seqT (.scr ns) o R = R (iL ns) (.bor 0) := rfl
theorem q_gcd : gcdT (.int i) (.int j) Q = Q (.int (gcdI i j)) (.bor 0) := rfl
theorem q_isiI : isinT (.int i) ks Q = Q (.bl (ks.any fun k => kdIs k (.int i))) (.bor 0) := rfl
theorem q_isiB : isinT (.bl b) ks Q = Q (.bl (ks.any fun k => kdIs k (.bl b))) (.bor 0) := rfl
theorem q_isiL : isinT (.lst xs) ks Q = Q (.bl (ks.any fun k => kdIs k (.lst xs))) (.bor 0) := rfl
theorem q_isiT : isinT (.tup xs) ks Q = Q (.bl (ks.any fun k => kdIs k (.tup xs))) (.bor 0) := rfl
theorem q_isiN : isinT .non ks Q = Q (.bl (ks.any fun k => kdIs k .non)) (.bor 0) := rfl
theorem q_isiS : isinT (.scr ns) ks Q = Q (.bl (ks.any fun k => kdIs k (.scr ns))) (.bor 0) := rfl
theorem q_unp : unpT (.tup xs) n R = (xs.length = n ∧ R xs) := rfl
theorem q_take0 : take x (.bor 0) p = p := rfl
theorem q_takeF : take x (.fr d) p = p := rfl
theorem q_takeI : take (.int i) o p = p := by cases o with | bor d => cases d <;> rfl | fr d => rfl
theorem q_keep0 : keep 0 x o p = take x o p := rfl
theorem q_keepF : keep (d + 1) (.lst xs) (.fr e) p = ((e = d + 1 ∨ (1 ≤ e ∧ xs.all (fun t => !t.isLst) = true)) ∧ p) := rfl
theorem q_sl0 : slOf x (.bor 0) = .sh x := rfl
theorem q_slF : slOf x (.fr d) = .sh x := rfl
theorem q_slB : slOf x (.bor (d + 1)) = .br (d + 1) x := rfl
theorem q_it0 : Og.item (.bor 0) = .bor 0 := rfl
theorem q_itF : Og.item (.fr d) = .bor 0 := rfl
theorem q_itB : Og.item (.bor (d + 1)) = .bor d := rfl
theorem q_sh0 : Og.shal (.bor 0) = True := rfl
theorem q_sh1 : Og.shal (.bor 1) = True := rfl
theorem q_sh2 {d : Nat} : Og.shal (.bor (d + 2)) = False := rfl
theorem q_shF : Og.shal (.fr d) = True := rfl
theorem q_frz0 : frzO (.bor 0) = True := rfl
theorem q_frzF : frzO (.fr d) = True := rfl
theorem q_asgN : wpAsg env n none x o K = K (env.store n (slOf x o)) := rfl
theorem q_asgF : wpAsg env n (some d) x (.fr e) K = (e = d ∧ K (env.store n (.ow d x))) := rfl
theorem q_rd0 : rdOk 0 o = True := rfl
theorem q_rdF : rdOk (k + 1) (.fr e) = (e = k + 1) := rfl
end
/-- a slot's value -/
def varS (env : PT.Env) : Sl → (T → Og → Prop) → Prop
  | .sh t, Q => Q t (.bor 0)
  | .ow d t, Q => Q t (.bor d)
  | .br d t, Q => Q t (.bor d)
  | .al r p, Q => (match env.get r with
    | .ow d t => p.length ≤ d ∧ ∃ t', t.at p = some t' ∧ Q t' (.bor (d - p.length))
    | _ => False)
  | .em, _ => False
  | .slf _ _ _, _ => False
theorem q_var {env : PT.Env} {i : Nat} {Q : T → Og → Prop} : varT env i Q = varS env (env.get i) Q := by
  unfold varT varS
  cases env.get i <;> rfl
theorem q_vsh {env : PT.Env} {t : T} {Q : T → Og → Prop} : varS env (.sh t) Q = Q t (.bor 0) := rfl
theorem q_vow {env : PT.Env} {t : T} {d : Nat} {Q : T → Og → Prop} : varS env (.ow d t) Q = Q t (.bor d) := rfl
theorem q_vbr {env : PT.Env} {t : T} {d : Nat} {Q : T → Og → Prop} : varS env (.br d t) Q = Q t (.bor d) := rfl
theorem q_val {env : PT.Env} {r : Nat} {p : List Nat} {Q : T → Og → Prop} : varS env (.al r p) Q = (match env.get r with
    | .ow d t => p.length ≤ d ∧ ∃ t', t.at p = some t' ∧ Q t' (.bor (d - p.length))
    | _ => False) := rfl
theorem q_fst {env : PT.Env} {i : Nat} {C C' f : Str} {ns : List Str} {ts : List T} {t : T} {k : PT.Env → Prop} : fstT (.slf C' ns ts :: env) 0 C f t k = (C' = C ∧ f ∉ ns ∧ ns.length = ts.length ∧ ns.length < 900 ∧ k (.slf C (ns ++ [f]) (ts ++ [t]) :: env)) := rfl
theorem q_end {env : PT.Env} {C C' : Str} {ns : List Str} {ts : List T} {Q : T → Prop} : iniEnd C (.slf C' ns ts :: env) Q = (C' = C ∧ Q (.ins C ns ts)) := rfl
theorem q_slcT {xs : List T} {o : Og} {lo hi : Option Int} {Q : T → Og → Prop} : slcT (.tup xs) o lo hi Q = Q (.tup (cutT xs lo hi)) (.bor 0) := rfl
theorem q_og0 : ogOf 0 = .bor 0 := rfl
theorem q_ogS {d : Nat} : ogOf (d + 1) = .fr (d + 1) := rfl
theorem q_at0 {t : T} : T.at t [] = some t := by cases t <;> rfl
theorem q_put0 {t x : T} : T.put t [] x = x := by cases t <;> rfl
end PT

namespace PT
open PySem PySem.Spec PyProof.Rows L2
/-! ### lists told by a rule for each place -/
theorem rgL_len (a b : Int) : (rgL a b).length = (b - a).toNat := by rw [rgL_eq]; simp
theorem rgL_mem {a b x : Int} (h : x ∈ rgL a b) : a ≤ x ∧ x < b := by
  rw [rgL_eq] at h
  obtain ⟨k, h1, h2⟩ := List.mem_map.mp h
  have := List.mem_range.mp h1
  omega
theorem mem_rgL {a b x : Int} (h1 : a ≤ x) (h2 : x < b) : x ∈ rgL a b := by
  rw [rgL_eq]
  exact List.mem_map.mpr ⟨(x - a).toNat, List.mem_range.mpr (by omega), by omega⟩
theorem rgL_get {m i : Int} (h0 : 0 ≤ i) (h1 : i < m) : (rgL 0 m)[i.toNat]? = some i := by
  rw [rgL_eq, List.getElem?_map, List.getElem?_range (by omega)]
  show some (0 + (i.toNat : Int)) = _
  rw [Int.toNat_of_nonneg h0, Int.zero_add]
theorem rgL_snoc {a j : Int} (h : a ≤ j) : rgL a (j + 1) = rgL a j ++ [j] := by
  rw [rgL_eq, rgL_eq, show (j + 1 - a).toNat = (j - a).toNat + 1 by omega, List.range_succ, List.map_append]
  congr 1
  show [a + ((j - a).toNat : Int)] = [j]
  congr 1
  omega
theorem rgL_nil {a b : Int} (h : b ≤ a) : rgL a b = [] := by
  rw [rgL_eq, show (b - a).toNat = 0 by omega]
  rfl
def fL (n : Int) (f : Int → Int) : List Int := (rgL 0 n).map f
theorem fL_len (n : Int) (f : Int → Int) : (fL n f).length = n.toNat := by unfold fL; rw [List.length_map, rgL_len]; omega
theorem fL_get {n k : Int} {f : Int → Int} (h0 : 0 ≤ k) (h1 : k < n) : (fL n f)[k.toNat]? = some (f k) := by
  unfold fL
  rw [List.getElem?_map, rgL_get h0 h1]
  rfl
theorem rg_get {α : Type} {n k : Int} {f : Int → α} (h0 : 0 ≤ k) (h1 : k < n) : ((rgL 0 n).map f)[k.toNat]? = some (f k) := by
  rw [List.getElem?_map, rgL_get h0 h1]
  rfl
theorem fL_snoc {j : Int} (f : Int → Int) (h : 0 ≤ j) : fL (j + 1) f = fL j f ++ [f j] := by
  unfold fL
  rw [rgL_snoc h, List.map_append]
  rfl
theorem rg_snoc {α : Type} {j : Int} (f : Int → α) (h : 0 ≤ j) : (rgL 0 (j + 1)).map f = (rgL 0 j).map f ++ [f j] := by
  rw [rgL_snoc h, List.map_append]
  rfl
theorem fL_congr {n : Int} {f g : Int → Int} (h : ∀ k, 0 ≤ k → k < n → f k = g k) : fL n f = fL n g := by
  unfold fL
  exact List.map_congr_left fun k hk => h k (rgL_mem hk).1 (rgL_mem hk).2
theorem rg_congr {α : Type} {n : Int} {f g : Int → α} (h : ∀ k, 0 ≤ k → k < n → f k = g k) : (rgL 0 n).map f = (rgL 0 n).map g :=
  List.map_congr_left fun k hk => h k (rgL_mem hk).1 (rgL_mem hk).2
theorem iL_fL (n : Int) (f : Int → Int) : iL (fL n f) = (rgL 0 n).map fun k => T.int (f k) := by
  unfold fL
  exact List.map_map ..
theorem fL_map (n : Int) (f : Int → Int) : ((rgL 0 n).map fun k => T.int (f k)) = iL (fL n f) := (iL_fL n f).symm
theorem len_rg {α : Type} (n : Int) (f : Int → α) : ((rgL 0 n).map f).length = n.toNat := by rw [List.length_map, rgL_len]; omega
theorem ext_int {α : Type} {a b : List α} (h : a.length = b.length) (k : ∀ i : Int, 0 ≤ i → i < a.length → a[i.toNat]? = b[i.toNat]?) : a = b := by
  refine List.ext_getElem? fun i => ?_
  by_cases hi : i < a.length
  · have := k (i : Int) (by omega) (by omega)
    rw [Int.toNat_natCast] at this
    exact this
  · rw [List.getElem?_eq_none (by omega), List.getElem?_eq_none (by omega)]
theorem rg_set {α : Type} {n k : Int} {f : Int → α} {v : α} (h0 : 0 ≤ k) : ((rgL 0 n).map f).set k.toNat v = (rgL 0 n).map fun j => if j = k then v else f j := by
  refine ext_int (by rw [List.length_set, len_rg, len_rg]) fun i i0 i1 => ?_
  rw [List.length_set, len_rg] at i1
  rw [rg_get i0 (by omega), List.getElem?_set]
  by_cases e : i = k
  · rw [if_pos (by omega), if_pos e, len_rg, if_pos (by omega)]
  · rw [if_neg (by omega), if_neg e, rg_get i0 (by omega)]
theorem fL_set {n k v : Int} {f : Int → Int} (h0 : 0 ≤ k) : (iL (fL n f)).set k.toNat (.int v) = iL (fL n fun j => if j = k then v else f j) := by
  rw [iL_fL, iL_fL, rg_set h0]
  exact rg_congr fun j _ _ => by split <;> rfl
theorem x_fL {n k : Int} {f : Int → Int} {R : T → Prop} (h0 : 0 ≤ k) (h : k < n) (q : R (.int (f k))) : ∃ t, atI (iL (fL n f)) k = some t ∧ R t :=
  ⟨_, atI_at h0 (by rw [List.getElem?_map, fL_get h0 h]; rfl), q⟩
theorem x_rg {α : Type} {n k : Int} {f : Int → α} {R : α → Prop} (h0 : 0 ≤ k) (h : k < n) (q : R (f k)) : ∃ t, atI ((rgL 0 n).map f) k = some t ∧ R t :=
  ⟨_, atI_at h0 (rg_get h0 h), q⟩
/-- the last item -/
theorem atI_last {α : Type} {n : Int} {f : Int → α} (h : 0 ≤ n) : atI ((rgL 0 (n + 1)).map f) (-1) = some (f n) := by
  unfold atI ixN
  rw [if_neg (by decide), len_rg, if_pos (by omega)]
  show ((rgL 0 (n + 1)).map f)[((((n + 1).toNat : Nat) : Int) + -1).toNat]? = _
  rw [show ((((n + 1).toNat : Nat) : Int) + -1).toNat = n.toNat by omega, rg_get h (by omega)]
theorem x_last {α : Type} {n : Int} {f : Int → α} {R : α → Prop} (h : 0 ≤ n) (q : R (f n)) : ∃ t, atI ((rgL 0 (n + 1)).map f) (-1) = some t ∧ R t := ⟨_, atI_last h, q⟩
theorem x_lastI {n : Int} {f : Int → Int} {R : T → Prop} (h : 0 ≤ n) (q : R (.int (f n))) : ∃ t, atI (iL (fL (n + 1) f)) (-1) = some t ∧ R t := by
  rw [iL_fL]
  exact x_last h q
section
variable {α : Type} {a b c d : α} {l : List α} {R : α → Prop}
theorem x_l0 (q : R a) : ∃ t, atI (a :: l) 0 = some t ∧ R t := ⟨a, atI_at (by decide) rfl, q⟩
theorem x_l1 (q : R b) : ∃ t, atI (a :: b :: l) 1 = some t ∧ R t := ⟨b, atI_at (by decide) rfl, q⟩
theorem x_l2 (q : R c) : ∃ t, atI (a :: b :: c :: l) 2 = some t ∧ R t := ⟨c, atI_at (by decide) rfl, q⟩
theorem x_l3 (q : R d) : ∃ t, atI (a :: b :: c :: d :: l) 3 = some t ∧ R t := ⟨d, atI_at (by decide) rfl, q⟩
end
/-! ### loops over them -/
theorem lc_rg {F : LcF} {n : Int} {h : Int → T} {g : T → List (Nat × Sl)} (v : Int → T) {Q : List T → Prop} (hn : n ≤ 1000000) (hs : ∀ j, 0 ≤ j → j < n → ∀ acc K, acc.length < sizeLine → K (acc ++ [v j]) → F (g (h j)) acc K) (hq : Q ((rgL 0 n).map v)) : lcL F (((rgL 0 n).map h).map g) [] Q :=
  lc_of v (rgL 0 n) (by rw [rgL_len]; unfold sizeLine; omega) (fun x hx => hs x (rgL_mem hx).1 (rgL_mem hx).2) hq
theorem lc_fL {F : LcF} {n : Int} {f : Int → Int} {g : T → List (Nat × Sl)} (v : Int → T) {Q : List T → Prop} (hn : n ≤ 1000000) (hs : ∀ j, 0 ≤ j → j < n → ∀ acc K, acc.length < sizeLine → K (acc ++ [v j]) → F (g (.int (f j))) acc K) (hq : Q ((rgL 0 n).map v)) : lcL F ((iL (fL n f)).map g) [] Q := by
  rw [iL_fL]
  exact lc_rg v hn hs hq
theorem lc_rng {F : LcF} {n : Int} {g : Int → List (Nat × Sl)} (v : Int → T) {Q : List T → Prop} (hn : n ≤ 1000000) (hs : ∀ j, 0 ≤ j → j < n → ∀ acc K, acc.length < sizeLine → K (acc ++ [v j]) → F (g j) acc K) (hq : Q ((rgL 0 n).map v)) : lcL F ((rgL 0 n).map g) [] Q :=
  lc_all v (rgL 0 n) (by rw [rgL_len]; unfold sizeLine; omega) (fun x hx => hs x (rgL_mem hx).1 (rgL_mem hx).2) hq
theorem zipS_map {α : Type} {i j : Nat} {oa ob : Og} {f g : α → T} : ∀ l : List α, zipS i j oa ob (l.map f) (l.map g) = l.map fun x => [(i, slOf (f x) oa), (j, slOf (g x) ob)]
  | [] => rfl
  | x :: l => by
    show [(i, slOf (f x) oa), (j, slOf (g x) ob)] :: zipS i j oa ob (l.map f) (l.map g) = _
    rw [zipS_map l]
    rfl
theorem forL_rg {F : LoopF} {n : Int} {h : Int → T} {g : T → List (Nat × Sl)} {k : Env → Prop} (I : Int → Env → Prop) (hn : 0 ≤ n) (env : Env) (h0 : I 0 env) (hs : ∀ j env K, 0 ≤ j → j < n → I j env → (∀ env', I (j + 1) env' → K env') → F (g (h j)) env K) (hd : ∀ env, I n env → k env) : forL F (((rgL 0 n).map h).map g) env k := by
  rw [List.map_map]
  exact forL_range (g := fun j => g (h j)) I hn env h0 hs hd
/-! ### cuts -/
theorem rg_take {α : Type} {n k : Int} {f : Int → α} (h0 : 0 ≤ k) (h : k ≤ n) : ((rgL 0 n).map f).take k.toNat = (rgL 0 k).map f := by
  refine ext_int (by rw [List.length_take, len_rg, len_rg]; omega) fun i i0 i1 => ?_
  rw [List.length_take, len_rg] at i1
  rw [List.getElem?_take, if_pos (by omega), rg_get i0 (by omega), rg_get i0 (by omega)]
theorem rg_exch {α : Type} {n k : Int} {f : Int → α} {v : α} (h0 : 0 ≤ k) (h : k < n) : ((rgL 0 n).map f).take k.toNat ++ [v] ++ ((rgL 0 n).map f).drop (k + 1).toNat = (rgL 0 n).map fun j => if j = k then v else f j := by
  refine ext_int (by simp only [List.length_append, List.length_take, List.length_drop, len_rg, List.length_singleton]; omega) fun i i0 i1 => ?_
  simp only [List.length_append, List.length_take, List.length_drop, len_rg, List.length_singleton] at i1
  rw [rg_get i0 (by omega)]
  by_cases l : i < k
  · rw [List.getElem?_append_left (by simp only [List.length_append, List.length_take, len_rg, List.length_singleton]; omega), List.getElem?_append_left (by simp only [List.length_take, len_rg]; omega), List.getElem?_take, if_pos (by omega), rg_get i0 (by omega), if_neg (by omega)]
  · by_cases e : i = k
    · rw [List.getElem?_append_left (by simp only [List.length_append, List.length_take, len_rg, List.length_singleton]; omega), List.getElem?_append_right (by simp only [List.length_take, len_rg]; omega)]
      simp only [List.length_take, len_rg]
      rw [show i.toNat - min k.toNat n.toNat = 0 by omega, if_pos e]
      rfl
    · rw [List.getElem?_append_right (by simp only [List.length_append, List.length_take, len_rg, List.length_singleton]; omega), List.getElem?_drop]
      simp only [List.length_append, List.length_take, len_rg, List.length_singleton]
      rw [show (k + 1).toNat + (i.toNat - (min k.toNat n.toNat + 1)) = i.toNat by omega, rg_get i0 (by omega), if_neg e]
/-! ### equal to itself -/
theorem beq_T1 (l : List Int) : T.beq (.tup (iL l)) (.tup (iL l)) = true := by
  show T.beqs (iL l) (iL l) = true
  rw [beqs_iL]
  exact beq_self_eq_true l
theorem beqs_tt (n : Int) (c : Int → List Int) : T.beqs ((rgL 0 n).map fun i => T.tup (iL (c i))) ((rgL 0 n).map fun i => T.tup (iL (c i))) = true :=
  beqs_map (f := fun i => T.tup (iL (c i))) (fun i => beq_T1 _) _
theorem dep_T1 (l : List Int) (n : Nat) : (T.tup (iL l)).dep (n + 1) := by
  unfold T.dep
  exact deps_iL l n
theorem dep_L1 (l : List Int) (n : Nat) : (T.lst (iL l)).dep (n + 1) := by
  unfold T.dep
  exact deps_iL l n
theorem noLs_map {α : Type} {f : α → T} (hf : ∀ x, (f x).noL = true) : ∀ l : List α, T.noLs (l.map f) = true
  | [] => rfl
  | x :: l => by
    show ((f x).noL && T.noLs (l.map f)) = true
    rw [hf x, noLs_map hf l]
    rfl
theorem noLs_iL (l : List Int) : T.noLs (iL l) = true := noLs_map (fun _ => rfl) l
/-! ### one of several -/
theorem pick_of (l : List Int) (k : Int) (R : T → Prop) (h0 : 0 ≤ k) (h1 : k < l.length) (h : ∀ x ∈ l, R (.int x)) : ∃ t, atI (iL l) k = some t ∧ R t :=
  ⟨_, atI_iL h0 h1, h _ (List.mem_of_getElem? (gi_at h0 h1))⟩
theorem sz_up {l : List Int} {b c : Nat} (h : ∀ y ∈ l, Sz b y) (hc : b ≤ c) : ∀ y ∈ l, Sz c y := fun y hy => (h y hy).mono hc
theorem gi_mem {l : List Int} {k : Int} (h0 : 0 ≤ k) (h : k < l.length) : gi l k ∈ l := List.mem_of_getElem? (gi_at h0 h)
theorem at1 {ts : List T} {m : Nat} {t : T} (h : ts[m]? = some t) : T.at (.lst ts) [m] = some t := by
  show (match ts[m]? with | some t => t.at [] | none => none) = _
  rw [h]
  exact q_at0
theorem put1 {ts : List T} {m : Nat} {t u : T} (h : ts[m]? = some t) : T.put (.lst ts) [m] u = .lst (ts.set m u) := by
  show (match ts[m]? with | some t => T.lst (ts.set m (t.put [] u)) | none => .lst ts) = _
  rw [h]
  show T.lst (ts.set m (T.put t [] u)) = _
  rw [q_put0]
theorem lc_filt {α : Type} {F : LcF} {g : α → List (Nat × Sl)} (p : α → Bool) (v : α → T) {Q : List T → Prop} : ∀ (xs : List α) (acc : List T), acc.length + xs.length ≤ sizeLine → (∀ x ∈ xs, ∀ acc K, acc.length < sizeLine → (p x = true → K (acc ++ [v x])) → (p x = false → K acc) → F (g x) acc K) → Q (acc ++ (xs.filter p).map v) → lcL F (xs.map g) acc Q
  | [], acc, _, _, h => by simpa [lcL] using h
  | x :: xs, acc, hl, hs, h => by
    show F (g x) acc fun acc' => lcL F (xs.map g) acc' Q
    refine hs x List.mem_cons_self acc _ (by simp at hl; omega) (fun hp => ?_) fun hp => ?_
    · refine lc_filt p v xs _ (by simp at hl ⊢; omega) (fun y hy => hs y (List.mem_cons_of_mem _ hy)) ?_
      rw [List.filter_cons_of_pos hp] at h
      rw [List.append_assoc]
      exact h
    · refine lc_filt p v xs _ (by simp at hl ⊢; omega) (fun y hy => hs y (List.mem_cons_of_mem _ hy)) ?_
      rw [List.filter_cons_of_neg (by rw [hp]; decide)] at h
      exact h
/-! ### calls by names alone: told once for any Γ, so that the kernel never looks into gam -/
theorem q_callK {Γ : Gam} {rd : Nat → Nat} {f : Nat} {ord : List Nat} {ks : TEs} {env : PT.Env} {Q : T → Og → Prop} : wpE Γ rd (.callK f false ord .nil ks) env Q = wpEs Γ rd ks env fun l => takes l fun us => Cl (Γ f (pick us ord) fun t => Q t (ogOf (rd f))) := propext ⟨fun h => h, fun h => h⟩
theorem q_pk1 {x : T} : pick [x] [0] = [x] := by
  have h : (pick [x] [0] = [x]) = True := propext ⟨fun _ => trivial, fun _ => rfl⟩
  exact of_eq_true h
theorem q_pk10 {x y : T} : pick [x, y] [1, 0] = [y, x] := by
  have h : (pick [x, y] [1, 0] = [y, x]) = True := propext ⟨fun _ => trivial, fun _ => rfl⟩
  exact of_eq_true h
theorem q_pk01 {x y : T} : pick [x, y] [0, 1] = [x, y] := by
  have h : (pick [x, y] [0, 1] = [x, y]) = True := propext ⟨fun _ => trivial, fun _ => rfl⟩
  exact of_eq_true h
end PT

/-! Determinants of integer vectors, by expansion along the first coordinate. -/
namespace LP
abbrev Vec : Type := Nat → Int
abbrev Mat : Type := Nat → Vec
def sumN : Nat → (Nat → Int) → Int
  | 0, _ => 0
  | n + 1, f => sumN n f + f n
theorem sumN_congr : ∀ {n : Nat} {f g : Nat → Int}, (∀ i, i < n → f i = g i) → sumN n f = sumN n g
  | 0, _, _, _ => rfl
  | n + 1, f, g, h => by
    show sumN n f + f n = sumN n g + g n
    rw [sumN_congr fun i hi => h i (by omega), h n (by omega)]
theorem sumN_zero : ∀ {n : Nat} {f : Nat → Int}, (∀ i, i < n → f i = 0) → sumN n f = 0
  | 0, _, _ => rfl
  | n + 1, f, h => by
    show sumN n f + f n = 0
    rw [sumN_zero fun i hi => h i (by omega), h n (by omega)]
    rfl
theorem sumN_lin : ∀ {n : Nat} {f g : Nat → Int} {a b : Int}, sumN n (fun i => a * f i + b * g i) = a * sumN n f + b * sumN n g
  | 0, f, g, a, b => by show (0 : Int) = a * 0 + b * 0; rw [Int.mul_zero, Int.mul_zero]; rfl
  | n + 1, f, g, a, b => by
    show sumN n _ + (a * f n + b * g n) = a * (sumN n f + f n) + b * (sumN n g + g n)
    rw [sumN_lin, Int.mul_add, Int.mul_add]
    omega
theorem sumN_mul {n : Nat} {f : Nat → Int} {a : Int} : sumN n (fun i => a * f i) = a * sumN n f := by
  have := sumN_lin (n := n) (f := f) (g := fun _ => 0) (a := a) (b := 0)
  simp only [Int.zero_mul, Int.add_zero] at this
  exact this
theorem sumN_add {n : Nat} {f g : Nat → Int} : sumN n (fun i => f i + g i) = sumN n f + sumN n g := by
  have := sumN_lin (n := n) (f := f) (g := g) (a := 1) (b := 1)
  simp only [Int.one_mul] at this
  exact this
/-- all but one are 0 -/
theorem sumN_one : ∀ {n : Nat} {f : Nat → Int} {i : Nat}, i < n → (∀ k, k < n → k ≠ i → f k = 0) → sumN n f = f i
  | 0, f, i, h, _ => absurd h (Nat.not_lt_zero i)
  | n + 1, f, i, h, hz => by
    show sumN n f + f n = f i
    by_cases e : i = n
    · subst e
      rw [sumN_zero fun k hk => hz k (by omega) (by omega), Int.zero_add]
    · rw [sumN_one (i := i) (by omega) fun k hk hki => hz k (by omega) hki, hz n (by omega) (Ne.symm e), Int.add_zero]
/-- all but two are 0 -/
theorem sumN_two {n : Nat} {f : Nat → Int} {i k : Nat} (hi : i < n) (hk : k < n) (hik : i ≠ k) (hz : ∀ l, l < n → l ≠ i → l ≠ k → f l = 0) : sumN n f = f i + f k := by
  have e : sumN n f = sumN n (fun l => (if l = i then f i else 0) + (if l = k then f k else 0)) := sumN_congr fun l hl => by
    by_cases e1 : l = i
    · subst e1; rw [if_pos rfl, if_neg hik, Int.add_zero]
    · by_cases e2 : l = k
      · subst e2; rw [if_neg e1, if_pos rfl, Int.zero_add]
      · rw [if_neg e1, if_neg e2, hz l hl e1 e2]; rfl
  rw [e, sumN_add, sumN_one hi (fun l _ h => if_neg h), sumN_one hk (fun l _ h => if_neg h), if_pos rfl, if_pos rfl]
def sgn (i : Nat) : Int := if i % 2 = 0 then 1 else -1
theorem sgn_succ (i : Nat) : sgn (i + 1) = -sgn i := by
  unfold sgn
  by_cases h : i % 2 = 0
  · rw [if_pos h, if_neg (by omega)]
  · rw [if_neg h, if_pos (by omega)]; rfl
def skip (V : Mat) (i : Nat) : Mat := fun k c => V (if k < i then k else k + 1) (c + 1)
def D : Nat → Mat → Int
  | 0, _ => 1
  | m + 1, V => sumN (m + 1) fun i => sgn i * V i 0 * D m (skip V i)
def up (V : Mat) (i : Nat) (x : Vec) : Mat := fun k => if k = i then x else V k
theorem up_same {V : Mat} {i : Nat} {x : Vec} : up V i x i = x := if_pos rfl
theorem up_ne {V : Mat} {i k : Nat} {x : Vec} (h : k ≠ i) : up V i x k = V k := if_neg h
theorem D_congr : ∀ {m : Nat} {V W : Mat}, (∀ i c, i < m → c < m → V i c = W i c) → D m V = D m W
  | 0, V, W, _ => rfl
  | m + 1, V, W, h => by
    show sumN (m + 1) _ = sumN (m + 1) _
    refine sumN_congr fun i hi => ?_
    rw [h i 0 hi (by omega), D_congr (V := skip V i) (W := skip W i) fun k c hk hc => ?_]
    show V (if k < i then k else k + 1) (c + 1) = W (if k < i then k else k + 1) (c + 1)
    exact h _ _ (by split <;> omega) (by omega)
theorem skip_up_same {V : Mat} {i : Nat} {x : Vec} : skip (up V i x) i = skip V i := by
  funext k c
  show up V i x (if k < i then k else k + 1) (c + 1) = V (if k < i then k else k + 1) (c + 1)
  rw [up_ne (by split <;> omega)]
theorem skip_up {V : Mat} {i k : Nat} {x : Vec} (h : k ≠ i) : skip (up V i x) k = up (skip V k) (if i < k then i else i - 1) (fun c => x (c + 1)) := by
  funext l c
  show up V i x (if l < k then l else l + 1) (c + 1) = up (skip V k) (if i < k then i else i - 1) (fun c => x (c + 1)) l c
  by_cases e : (if l < k then l else l + 1) = i
  · have e2 : l = (if i < k then i else i - 1) := by
      by_cases h1 : l < k
      · rw [if_pos h1] at e; rw [if_pos (by omega)]; exact e
      · rw [if_neg h1] at e; rw [if_neg (by omega)]; omega
    rw [e, up_same, ← e2, up_same]
  · have e2 : l ≠ (if i < k then i else i - 1) := fun z => by
      apply e
      by_cases h1 : i < k
      · rw [if_pos h1] at z; rw [if_pos (by omega)]; exact z
      · rw [if_neg h1] at z; rw [if_neg (by omega)]; omega
    rw [up_ne e, up_ne e2]
    rfl
theorem D_lin : ∀ {m : Nat} {V : Mat} {i : Nat} {x y : Vec} {a b : Int}, i < m → D m (up V i fun c => a * x c + b * y c) = a * D m (up V i x) + b * D m (up V i y)
  | 0, _, i, _, _, _, _, h => absurd h (Nat.not_lt_zero i)
  | m + 1, V, i, x, y, a, b, h => by
    show sumN (m + 1) _ = a * sumN (m + 1) _ + b * sumN (m + 1) _
    rw [← sumN_lin]
    refine sumN_congr fun k hk => ?_
    by_cases e : k = i
    · subst e
      rw [up_same, up_same, up_same, skip_up_same, skip_up_same, skip_up_same]
      generalize D m (skip V k) = d
      show sgn k * (a * x 0 + b * y 0) * d = a * (sgn k * x 0 * d) + b * (sgn k * y 0 * d)
      rw [Int.mul_add, Int.add_mul]
      congr 1
      · rw [Int.mul_left_comm (sgn k) a, Int.mul_assoc]
      · rw [Int.mul_left_comm (sgn k) b, Int.mul_assoc]
    · rw [up_ne e, up_ne e, up_ne e, skip_up e, skip_up e, skip_up e]
      rw [D_lin (m := m) (V := skip V k) (x := fun c => x (c + 1)) (y := fun c => y (c + 1)) (by split <;> omega)]
      generalize D m (up (skip V k) _ fun c => x (c + 1)) = p
      generalize D m (up (skip V k) _ fun c => y (c + 1)) = q
      generalize sgn k * V k 0 = s
      rw [Int.mul_add, Int.mul_left_comm s a, Int.mul_left_comm s b]
theorem D_adj : ∀ {m : Nat} {V : Mat} {i : Nat}, i + 1 < m → (∀ c, V i c = V (i + 1) c) → D m V = 0
  | 0, _, i, h, _ => absurd h (by omega)
  | m + 1, V, i, h, e => by
    show sumN (m + 1) _ = 0
    rw [sumN_two (i := i) (k := i + 1) (by omega) h (by omega) fun k hk h1 h2 => ?_]
    · have es : D m (skip V i) = D m (skip V (i + 1)) := D_congr fun k c hk hc => by
        show V (if k < i then k else k + 1) (c + 1) = V (if k < i + 1 then k else k + 1) (c + 1)
        by_cases h1 : k < i
        · rw [if_pos h1, if_pos (by omega)]
        · by_cases h2 : k = i
          · subst h2; rw [if_neg h1, if_pos (by omega), e]
          · rw [if_neg h1, if_neg (by omega)]
      rw [es, ← e, sgn_succ, Int.neg_mul, Int.neg_mul]
      omega
    · have : D m (skip V k) = 0 := by
        refine D_adj (i := if i < k then i else i - 1) (by split <;> omega) fun c => ?_
        show V (if (if i < k then i else i - 1) < k then (if i < k then i else i - 1) else (if i < k then i else i - 1) + 1) (c + 1) = V (if (if i < k then i else i - 1) + 1 < k then (if i < k then i else i - 1) + 1 else (if i < k then i else i - 1) + 1 + 1) (c + 1)
        by_cases h3 : i < k
        · simp only [if_pos h3]
          rw [if_pos (by omega)]
          exact e (c + 1)
        · simp only [if_neg h3]
          rw [if_neg (by omega), if_neg (by omega), show i - 1 + 1 = i by omega]
          exact e (c + 1)
      rw [this, Int.mul_zero]
theorem up_comm {V : Mat} {i k : Nat} {x y : Vec} (h : i ≠ k) : up (up V i x) k y = up (up V k y) i x := by
  funext l
  by_cases e1 : l = k
  · subst e1; rw [up_same, up_ne (Ne.symm h), up_same]
  · by_cases e2 : l = i
    · subst e2; rw [up_ne e1, up_same, up_same]
    · rw [up_ne e1, up_ne e2, up_ne e2, up_ne e1]
/-- equal vectors give 0, so an exchange changes the sign -/
theorem D_swap_of {m : Nat} {V : Mat} {i k : Nat} (hi : i < m) (hk : k < m) (hik : i ≠ k) (z : ∀ w : Vec, D m (up (up V i w) k w) = 0) (x y : Vec) : D m (up (up V i x) k y) = -D m (up (up V i y) k x) := by
  have h := z fun c => 1 * x c + 1 * y c
  rw [D_lin hk, up_comm hik, up_comm hik, D_lin hi, D_lin hi] at h
  have h1 := z x
  have h2 := z y
  rw [up_comm hik] at h1 h2
  rw [h1, h2] at h
  rw [up_comm (x := x) hik, up_comm (x := y) hik]
  omega
theorem D_eq : ∀ {m : Nat} {V : Mat} (n : Nat) {i k : Nat}, k = i + 1 + n → k < m → (∀ c, V i c = V k c) → D m V = 0
  | m, V, 0, i, k, e, h, q => by
    subst e
    exact D_adj h q
  | m, V, n + 1, i, k, e, h, q => by
    -- k - 1 and k exchanged
    have hk : k = (k - 1) + 1 := by omega
    have s := D_swap_of (m := m) (V := V) (i := k - 1) (k := k) (by omega) h (by omega) (fun w => D_adj (i := k - 1) (by omega) fun c => by rw [up_ne (by omega), up_same, ← hk, up_same]) (V (k - 1)) (V k)
    have e1 : up (up V (k - 1) (V (k - 1))) k (V k) = V := by
      funext l
      by_cases h1 : l = k
      · subst h1; rw [up_same]
      · by_cases h2 : l = k - 1
        · subst h2; rw [up_ne h1, up_same]
        · rw [up_ne h1, up_ne h2]
    rw [e1] at s
    rw [s, D_eq (m := m) (V := up (up V (k - 1) (V k)) k (V (k - 1))) n (i := i) (k := k - 1) (by omega) (by omega) fun c => ?_]
    · rfl
    · rw [up_ne (by omega), up_ne (by omega), up_ne (by omega), up_same]
      exact q c
theorem D_same {m : Nat} {V : Mat} {i k : Nat} (hi : i < m) (hk : k < m) (h : i ≠ k) (q : ∀ c, V i c = V k c) : D m V = 0 := by
  by_cases l : i < k
  · exact D_eq (k - i - 1) (by omega) hk q
  · exact D_eq (i - k - 1) (i := k) (k := i) (by omega) hi fun c => (q c).symm
theorem D_swap {m : Nat} {V : Mat} {i k : Nat} (hi : i < m) (hk : k < m) (hik : i ≠ k) (x y : Vec) : D m (up (up V i x) k y) = -D m (up (up V i y) k x) :=
  D_swap_of hi hk hik (fun w => D_same hi hk hik fun c => by rw [up_ne hik, up_same, up_same]) x y
/-- a sum of several vectors at one place -/
theorem D_sum {m : Nat} {V : Mat} {i : Nat} (hi : i < m) (t : Nat → Int) (w : Mat) : ∀ n, D m (up V i fun c => sumN n fun s => t s * w s c) = sumN n fun s => t s * D m (up V i (w s))
  | 0 => by
    have := D_lin (m := m) (V := V) (i := i) (x := fun _ => 0) (y := fun _ => 0) (a := 0) (b := 0) hi
    simp only [Int.zero_mul, Int.add_zero] at this
    exact this
  | n + 1 => by
    show D m (up V i fun c => (sumN n fun s => t s * w s c) + t n * w n c) = (sumN n fun s => t s * D m (up V i (w s))) + t n * D m (up V i (w n))
    have := D_lin (m := m) (V := V) (i := i) (x := fun c => sumN n fun s => t s * w s c) (y := w n) (a := 1) (b := t n) hi
    simp only [Int.one_mul] at this
    rw [this, D_sum hi t w n]
theorem D_scale {m : Nat} {V : Mat} {i : Nat} (hi : i < m) (a : Int) (x : Vec) : D m (up V i fun c => a * x c) = a * D m (up V i x) := by
  have := D_lin (m := m) (V := V) (i := i) (x := x) (y := fun _ => 0) (a := a) (b := 0) hi
  simp only [Int.zero_mul, Int.add_zero] at this
  exact this
theorem D_id : ∀ (m : Nat) (V : Mat), (∀ i c, i < m → c < m → V i c = if i = c then 1 else 0) → D m V = 1
  | 0, _, _ => rfl
  | m + 1, V, h => by
    show sumN (m + 1) _ = 1
    rw [sumN_one (i := 0) (by omega) fun k hk hk0 => by rw [h k 0 hk (by omega), if_neg hk0, Int.mul_zero, Int.zero_mul]]
    rw [h 0 0 (by omega) (by omega), if_pos rfl, D_id m (skip V 0) fun i c hi hc => ?_]
    · rfl
    · show V (if i < 0 then i else i + 1) (c + 1) = _
      rw [if_neg (by omega), h (i + 1) (c + 1) (by omega) (by omega)]
      by_cases e : i = c
      · rw [if_pos e, if_pos (by omega)]
      · rw [if_neg e, if_neg (by omega)]
theorem sumN_bound : ∀ {n : Nat} {f : Nat → Int} {b : Nat}, (∀ i, i < n → (f i).natAbs ≤ b) → (sumN n f).natAbs ≤ n * b
  | 0, _, _, _ => by show (0 : Int).natAbs ≤ _; simp
  | n + 1, f, b, h => by
    show (sumN n f + f n).natAbs ≤ _
    have h1 := sumN_bound (n := n) (f := f) (b := b) fun i hi => h i (by omega)
    have h2 := h n (by omega)
    have := Int.natAbs_add_le (sumN n f) (f n)
    rw [Nat.succ_mul]
    omega
/-- of at most m ^ m times M ^ m -/
theorem D_bound : ∀ {m : Nat} {V : Mat} {M : Nat}, (∀ i c, i < m → c < m → (V i c).natAbs ≤ M) → (D m V).natAbs ≤ m ^ m * M ^ m
  | 0, V, M, _ => by show (1 : Int).natAbs ≤ 0 ^ 0 * M ^ 0; simp
  | m + 1, V, M, h => by
    have hb : ∀ i, i < m + 1 → (sgn i * V i 0 * D m (skip V i)).natAbs ≤ M * (m ^ m * M ^ m) := fun i hi => by
      rw [Int.natAbs_mul, Int.natAbs_mul]
      have s1 : (sgn i).natAbs = 1 := by unfold sgn; split <;> rfl
      rw [s1, Nat.one_mul]
      refine Nat.mul_le_mul (h i 0 hi (by omega)) (D_bound fun k c hk hc => ?_)
      exact h _ _ (by split <;> omega) (by omega)
    have := sumN_bound hb
    refine Nat.le_trans this ?_
    have e1 : m ^ m ≤ (m + 1) ^ m := Nat.pow_le_pow_left (by omega) m
    have e2 : (m + 1) ^ (m + 1) * M ^ (m + 1) = (m + 1) * (M * ((m + 1) ^ m * M ^ m)) := by
      rw [Nat.pow_succ, Nat.pow_succ]
      generalize (m + 1) ^ m = p
      generalize M ^ m = q
      rw [Nat.mul_comm p (m + 1), Nat.mul_assoc, Nat.mul_comm M, ← Nat.mul_assoc p]
    rw [e2]
    exact Nat.mul_le_mul_left _ (Nat.mul_le_mul_left _ (Nat.mul_le_mul_right _ e1))
end LP

/-! KN: elimination of columns in rows of whole numbers: the rows keep small, and what they tell of solutions. -/
namespace KN
open LP
def pr : Nat → (Nat → Nat) → Nat
  | 0, _ => 1
  | m + 1, f => f 0 * pr m fun c => f (c + 1)
theorem pr_mono : ∀ {m : Nat} {f g : Nat → Nat}, (∀ c, c < m → f c ≤ g c) → pr m f ≤ pr m g
  | 0, _, _, _ => Nat.le_refl 1
  | m + 1, f, g, h => Nat.mul_le_mul (h 0 (by omega)) (pr_mono fun c hc => h (c + 1) (by omega))
theorem pr_pos : ∀ {m : Nat} {f : Nat → Nat}, (∀ c, c < m → 1 ≤ f c) → 1 ≤ pr m f
  | 0, _, _ => Nat.le_refl 1
  | m + 1, f, h => Nat.mul_le_mul (h 0 (by omega)) (pr_pos fun c hc => h (c + 1) (by omega))
theorem pr_pow : ∀ {m : Nat} {e : Nat → Nat}, pr m (fun c => 2 ^ e c) = 2 ^ ((List.range m).map e).sum
  | 0, e => rfl
  | m + 1, e => by
    show 2 ^ e 0 * pr m (fun c => 2 ^ e (c + 1)) = _
    rw [pr_pow (e := fun c => e (c + 1)), ← Nat.pow_add, List.range_succ_eq_map, List.map_cons, List.sum_cons, List.map_map]
    rfl
def suA : Nat → (Nat → Int) → Nat
  | 0, _ => 0
  | n + 1, f => suA n f + (f n).natAbs
theorem suA_sum : ∀ {n : Nat} {f : Nat → Int}, (sumN n f).natAbs ≤ suA n f
  | 0, _ => Nat.le_refl 0
  | n + 1, f => by
    have := suA_sum (n := n) (f := f)
    have h2 := Int.natAbs_add_le (sumN n f) (f n)
    show (sumN n f + f n).natAbs ≤ suA n f + (f n).natAbs
    omega
theorem suA_mono : ∀ {n : Nat} {f g : Nat → Int}, (∀ i, i < n → (f i).natAbs ≤ (g i).natAbs) → suA n f ≤ suA n g
  | 0, _, _, _ => Nat.le_refl 0
  | n + 1, f, g, h => Nat.add_le_add (suA_mono fun i hi => h i (by omega)) (h n (by omega))
theorem suA_at : ∀ {n : Nat} {f : Nat → Int} {i : Nat}, i < n → (f i).natAbs ≤ suA n f
  | 0, f, i, h => absurd h (by omega)
  | n + 1, f, i, h => by
    show _ ≤ suA n f + (f n).natAbs
    by_cases e : i = n
    · subst e; omega
    · have := suA_at (n := n) (f := f) (i := i) (by omega); omega
theorem suA_mulr : ∀ {n : Nat} {f : Nat → Int} {b : Nat}, (suA n fun i => f i * (b : Int)) = suA n f * b
  | 0, f, b => (Nat.zero_mul b).symm
  | n + 1, f, b => by
    show (suA n fun i => f i * (b : Int)) + (f n * (b : Int)).natAbs = (suA n f + (f n).natAbs) * b
    rw [suA_mulr, Int.natAbs_mul, Nat.add_mul, Int.natAbs_natCast]
/-- the sum of all but the i-th -/
theorem suA_skip : ∀ {n : Nat} {f : Nat → Int} {i : Nat}, i < n + 1 → suA n (fun k => f (if k < i then k else k + 1)) ≤ suA (n + 1) f
  | 0, f, i, h => Nat.zero_le _
  | n + 1, f, i, h => by
    show suA n (fun k => f (if k < i then k else k + 1)) + (f (if n < i then n else n + 1)).natAbs ≤ (suA n f + (f n).natAbs) + (f (n + 1)).natAbs
    by_cases e : i = n + 1
    · subst e
      rw [if_pos (by omega)]
      have : suA n (fun k => f (if k < n + 1 then k else k + 1)) ≤ suA n f := suA_mono fun k hk => by rw [if_pos (by omega)]; exact Nat.le_refl _
      omega
    · have := suA_skip (n := n) (f := f) (i := i) (by omega)
      have e2 : suA (n + 1) f = suA n f + (f n).natAbs := rfl
      rw [if_neg (by omega)]
      omega
theorem suA_up : ∀ {n : Nat} {V : Mat} {i : Nat} {x : Vec} {c : Nat}, suA n (fun k => up V i x k c) ≤ suA n (fun k => V k c) + (x c).natAbs
  | 0, V, i, x, c => Nat.zero_le _
  | n + 1, V, i, x, c => by
    have ih := suA_up (n := n) (V := V) (i := i) (x := x) (c := c)
    show suA n (fun k => up V i x k c) + (up V i x n c).natAbs ≤ suA n (fun k => V k c) + (V n c).natAbs + (x c).natAbs
    by_cases e : n = i
    · subst e
      rw [up_same]
      have : suA n (fun k => up V n x k c) ≤ suA n fun k => V k c := suA_mono fun k hk => by rw [up_ne (by omega)]; exact Nat.le_refl _
      omega
    · rw [up_ne e]
      omega
theorem suA_lin {n : Nat} {f : Nat → Int} {b : Nat} {g : Nat → Nat} (h : ∀ i, i < n → g i ≤ (f i).natAbs * b) : (suA n fun i => (g i : Int)) ≤ suA n f * b := by
  rw [← suA_mulr]
  exact suA_mono fun i hi => by rw [Int.natAbs_mul]; simpa using h i hi
theorem D_prod : ∀ {m : Nat} {V : Mat}, (D m V).natAbs ≤ pr m fun c => suA m fun i => V i c
  | 0, V => Nat.le_refl 1
  | m + 1, V => by
    show (sumN (m + 1) fun i => sgn i * V i 0 * D m (skip V i)).natAbs ≤ suA (m + 1) (fun i => V i 0) * pr m fun c => suA (m + 1) fun i => V i (c + 1)
    refine Nat.le_trans suA_sum ?_
    refine Nat.le_trans (m := suA (m + 1) fun i => V i 0 * ((pr m fun c => suA (m + 1) fun i => V i (c + 1) : Nat) : Int)) (suA_mono fun i hi => ?_) ?_
    · rw [Int.natAbs_mul, Int.natAbs_mul, Int.natAbs_mul, Int.natAbs_natCast]
      have s1 : (sgn i).natAbs = 1 := by unfold sgn; split <;> rfl
      rw [s1, Nat.one_mul]
      refine Nat.mul_le_mul_left _ (Nat.le_trans D_prod (pr_mono fun c hc => ?_))
      exact suA_skip (f := fun k => V k (c + 1)) hi
    · rw [suA_mulr]
      exact Nat.le_refl _
/-! ### the determinants' table -/
def R (m : Nat) (A B : Mat) (i j : Nat) : Int := D m (up B i (A j))
structure Tells (m n : Nat) (A B : Mat) : Prop where
  det : D m B ≠ 0
  tell : ∀ j, j < n → ∀ c, D m B * A j c = sumN m fun i => R m A B i j * B i c
section
variable {m n : Nat} {A B : Mat}
theorem up_id {V : Mat} {i : Nat} : up V i (V i) = V := by
  funext k
  by_cases e : k = i
  · subst e; rw [up_same]
  · rw [up_ne e]
def col (m : Nat) (a : Nat → Nat → Int) : Mat := fun j c => if c < m then a c j else 0
def I1 : Mat := fun i c => if i = c then 1 else 0
theorem D_in (B : Mat) {i : Nat} (hi : i < m) (a : Nat → Int) : D m (up B i fun c => sumN m fun s => a s * B s c) = a i * D m B := by
  rw [D_sum hi a B m, sumN_one hi fun s hs hsi => ?_, up_id]
  rw [D_same hi hs (Ne.symm hsi) fun c => by rw [up_same, up_ne hsi], Int.mul_zero]
theorem R_start {a : Nat → Nat → Int} {i j : Nat} (hi : i < m) : R m (col m a) I1 i j = a i j := by
  have e : col m a j = fun c => sumN m fun s => a s j * I1 s c := funext fun c => by
    unfold col I1
    by_cases h : c < m
    · rw [if_pos h, sumN_one h fun k hk hkc => by rw [if_neg hkc, Int.mul_zero], if_pos rfl, Int.mul_one]
    · rw [if_neg h, sumN_zero fun k hk => by rw [if_neg (by omega), Int.mul_zero]]
  unfold R
  rw [e, D_in I1 hi fun s => a s j, D_id m I1 fun i c _ _ => rfl, Int.mul_one]
theorem tells_start (m n : Nat) (a : Nat → Nat → Int) : Tells m n (col m a) I1 := by
  refine ⟨by rw [D_id m I1 fun i c _ _ => rfl]; decide, fun j hj c => ?_⟩
  rw [D_id m I1 fun i c _ _ => rfl, Int.one_mul, sumN_congr fun i hi => by rw [R_start hi]]
  unfold col I1
  by_cases e : c < m
  · rw [if_pos e, sumN_one e fun k hk hkc => by rw [if_neg hkc, Int.mul_zero], if_pos rfl, Int.mul_one]
  · rw [if_neg e, sumN_zero fun k hk => by rw [if_neg (by omega), Int.mul_zero]]
theorem Tells.whole (h : Tells m n A B) {r j0 i j : Nat} (hr : r < m) (h0 : j0 < n) (hi : i < m) (hir : i ≠ r) :
    D m B * R m A (up B r (A j0)) i j = R m A B i j * R m A B r j0 - R m A B i j0 * R m A B r j := by
  unfold R
  rw [up_comm (Ne.symm hir), ← D_scale hr]
  have e2 : (fun c => D m B * A j0 c) = fun c => sumN m fun s => R m A B s j0 * B s c := funext fun c => h.tell j0 h0 c
  rw [e2, D_sum hr (fun s => R m A B s j0) B m, sumN_two hr hi (Ne.symm hir) fun s hs h1 h2 => ?_]
  · have e3 : up (up B i (A j)) r (B r) = up B i (A j) := by
      rw [← up_comm (Ne.symm hir), up_id]
    have e4 : D m (up (up B i (A j)) r (B i)) = -D m (up B r (A j)) := by
      rw [D_swap hi hr hir, up_id]
    rw [e3, e4]
    show R m A B r j0 * _ + R m A B i j0 * _ = _ * R m A B r j0 - R m A B i j0 * _
    rw [Int.mul_neg, Int.mul_comm (R m A B r j0), Int.sub_eq_add_neg]
  · rw [D_same hr hs (Ne.symm h1) fun c => by rw [up_same, up_ne h1, up_ne h2], Int.mul_zero]
theorem R_same {r j0 j : Nat} : R m A (up B r (A j0)) r j = R m A B r j := by
  unfold R
  congr 1
  funext k
  by_cases e : k = r
  · subst e; rw [up_same, up_same]
  · rw [up_ne e, up_ne e, up_ne e]
theorem Tells.step (h : Tells m n A B) {r j0 : Nat} (hr : r < m) (h0 : j0 < n) (hp : R m A B r j0 ≠ 0) : Tells m n A (up B r (A j0)) := by
  refine ⟨hp, fun j hj c => ?_⟩
  refine Int.eq_of_mul_eq_mul_left h.det ?_
  show D m B * (R m A B r j0 * A j c) = _
  rw [Int.mul_left_comm, h.tell j hj c, ← sumN_mul, ← sumN_mul]
  have t0 := h.tell j0 h0 c
  have e1 : (sumN m fun i => D m B * (R m A (up B r (A j0)) i j * up B r (A j0) i c)) = sumN m fun i => 1 * (R m A B r j0 * (R m A B i j * B i c)) + (-R m A B r j) * ((R m A B i j0 * B i c) - (if i = r then D m B * A j0 c else 0)) := by
    refine sumN_congr fun i hi => ?_
    by_cases e : i = r
    · subst e
      rw [R_same, up_same, if_pos rfl]
      generalize D m B = d
      generalize R m A B i j = x
      generalize R m A B i j0 = y
      generalize B i c = z
      generalize A j0 c = u
      rw [Int.mul_sub, Int.one_mul, Int.neg_mul, Int.neg_mul, Int.mul_left_comm x y z, Int.mul_left_comm d x u]
      omega
    · rw [up_ne e, if_neg e, ← Int.mul_assoc, h.whole hr h0 hi e, Int.sub_zero]
      generalize R m A B i j = x
      generalize R m A B r j0 = y
      generalize R m A B i j0 = u
      generalize R m A B r j = v
      generalize B i c = z
      rw [Int.sub_mul, Int.one_mul, Int.neg_mul, Int.mul_comm x y, Int.mul_assoc, Int.mul_comm u v, Int.mul_assoc]
      omega
  rw [e1, sumN_lin]
  have e2 : (sumN m fun i => (R m A B i j0 * B i c) - (if i = r then D m B * A j0 c else 0)) = 0 := by
    have e3 : (sumN m fun i => (R m A B i j0 * B i c) - (if i = r then D m B * A j0 c else 0)) = sumN m fun i => 1 * (R m A B i j0 * B i c) + (-1) * (if i = r then D m B * A j0 c else 0) := sumN_congr fun i _ => by
      rw [Int.one_mul, Int.neg_mul, Int.one_mul]; omega
    rw [e3, sumN_lin, ← t0, sumN_one hr fun k _ hk => if_neg hk, if_pos rfl]
    omega
  rw [e2, Int.one_mul, Int.mul_zero, Int.add_zero]
/-- the size of the table's numbers -/
theorem R_size {i j : Nat} {S : Nat → Nat} (hB : ∀ c, c < m → suA m (fun k => B k c) ≤ S c) : (R m A B i j).natAbs ≤ pr m fun c => S c + (A j c).natAbs := by
  unfold R
  refine Nat.le_trans D_prod (pr_mono fun c hc => ?_)
  exact Nat.le_trans suA_up (Nat.add_le_add_right (hB c hc) _)
end
/-! ### rows that lie along the table's -/
/-- two rows lie along each other -/
def Par (n : Nat) (f g : Nat → Int) : Prop := ∃ s t : Int, s ≠ 0 ∧ t ≠ 0 ∧ ∀ j, j < n → s * f j = t * g j
/-- no common divisor but 1 -/
def Prim (n : Nat) (f : Nat → Int) : Prop := ∀ d : Int, (∀ j, j < n → d ∣ f j) → d.natAbs = 1
theorem par_le {n : Nat} {f g : Nat → Int} (h : Par n f g) (hp : Prim n f) : ∀ j, j < n → (f j).natAbs ≤ (g j).natAbs := by
  obtain ⟨s, t, hs, ht, e⟩ := h
  have g0 : 0 < Int.gcd s t := Int.gcd_pos_of_ne_zero_left _ hs
  obtain ⟨a, ha⟩ := Int.gcd_dvd_left s t
  obtain ⟨b, hb⟩ := Int.gcd_dvd_right s t
  have c1 : Int.gcd a b = 1 := by
    have q : Int.gcd ((Int.gcd s t : Int) * a) ((Int.gcd s t : Int) * b) = (Int.gcd s t : Int).natAbs * Int.gcd a b := Int.gcd_mul_left ..
    rw [← ha, ← hb, Int.natAbs_natCast] at q
    have : Int.gcd s t * 1 = Int.gcd s t * Int.gcd a b := by rw [Nat.mul_one]; exact q
    exact (Nat.eq_of_mul_eq_mul_left g0 this).symm
  generalize Int.gcd s t = G at *
  have e2 : ∀ j, j < n → a * f j = b * g j := fun j hj => by
    have q := e j hj
    rw [ha, hb, Int.mul_assoc, Int.mul_assoc] at q
    exact Int.eq_of_mul_eq_mul_left (by omega) q
  have hb1 : b.natAbs = 1 := hp b fun j hj => by
    have q : b.natAbs ∣ a.natAbs * (f j).natAbs := by rw [← Int.natAbs_mul, e2 j hj, Int.natAbs_mul]; exact Nat.dvd_mul_right _ _
    have c2 : Nat.Coprime b.natAbs a.natAbs := (Nat.coprime_comm.mp (show Nat.Coprime a.natAbs b.natAbs from c1))
    exact Int.natAbs_dvd_natAbs.mp (c2.dvd_of_dvd_mul_left q)
  have a0 : a ≠ 0 := fun z => by rw [z, Int.mul_zero] at ha; exact hs ha
  intro j hj
  have q := congrArg Int.natAbs (e2 j hj)
  rw [Int.natAbs_mul, Int.natAbs_mul, hb1, Nat.one_mul] at q
  rw [← q]
  exact Nat.le_mul_of_pos_left _ (by omega)
end KN

/-! KN2: the elimination of kernel_row and of the law, plain. -/
namespace KN
open LP
/-! ### lowered rows -/
def gcdN : Nat → (Nat → Int) → Int
  | 0, _ => 0
  | n + 1, f => (Nat.gcd (gcdN n f).natAbs (f n).natAbs : Nat)
def low (n : Nat) (f : Nat → Int) : Nat → Int := if gcdN n f < 2 then f else fun j => f j / gcdN n f
theorem gcdN_nonneg : ∀ (n : Nat) (f : Nat → Int), 0 ≤ gcdN n f
  | 0, _ => Int.le_refl 0
  | n + 1, f => Int.natCast_nonneg _
theorem gcdN_dvd : ∀ {n : Nat} {f : Nat → Int} {j : Nat}, j < n → gcdN n f ∣ f j
  | 0, f, j, h => absurd h (by omega)
  | n + 1, f, j, h => by
    show ((Nat.gcd (gcdN n f).natAbs (f n).natAbs : Nat) : Int) ∣ f j
    by_cases e : j = n
    · subst e; exact Int.ofNat_dvd_left.mpr (Nat.gcd_dvd_right _ _)
    · have h1 : ((Nat.gcd (gcdN n f).natAbs (f n).natAbs : Nat) : Int) ∣ gcdN n f := Int.ofNat_dvd_left.mpr (Nat.gcd_dvd_left _ _)
      exact Int.dvd_trans h1 (gcdN_dvd (by omega))
theorem dvd_gcdN : ∀ {n : Nat} {f : Nat → Int} {d : Int}, (∀ j, j < n → d ∣ f j) → d ∣ gcdN n f
  | 0, f, d, _ => Int.dvd_zero d
  | n + 1, f, d, h => by
    have h1 := dvd_gcdN (n := n) (f := f) (d := d) fun j hj => h j (by omega)
    have h2 := h n (by omega)
    show d ∣ ((Nat.gcd (gcdN n f).natAbs (f n).natAbs : Nat) : Int)
    refine Int.natAbs_dvd_natAbs.mp ?_
    rw [Int.natAbs_natCast]
    exact Nat.dvd_gcd (Int.natAbs_dvd_natAbs.mpr h1) (Int.natAbs_dvd_natAbs.mpr h2)
theorem gcdN_zero {n : Nat} {f : Nat → Int} (h : gcdN n f = 0) : ∀ j, j < n → f j = 0 := fun j hj => by
  have := gcdN_dvd (f := f) hj
  rw [h] at this
  exact Int.zero_dvd.mp this
theorem low_mul (n : Nat) (f : Nat → Int) : ∃ g : Int, 0 < g ∧ ∀ j, j < n → g * low n f j = f j := by
  unfold low
  by_cases c : gcdN n f < 2
  · rw [if_pos c]; exact ⟨1, by decide, fun j _ => Int.one_mul _⟩
  · rw [if_neg c]; exact ⟨gcdN n f, by omega, fun j hj => Int.mul_ediv_cancel' (gcdN_dvd hj)⟩
theorem low_zero {n : Nat} {f : Nat → Int} {j : Nat} (hj : j < n) : low n f j = 0 ↔ f j = 0 := by
  obtain ⟨g, h1, h2⟩ := low_mul n f
  rw [← h2 j hj]
  constructor
  · intro h; rw [h, Int.mul_zero]
  · intro h
    rcases Int.mul_eq_zero.mp h with z | z
    · omega
    · exact z
theorem low_prim {n : Nat} {f : Nat → Int} {j0 : Nat} (h0 : j0 < n) (hne : f j0 ≠ 0) : Prim n (low n f) := by
  intro d hd
  have gp : 0 < gcdN n f := by
    have := gcdN_nonneg n f
    have : gcdN n f ≠ 0 := fun z => hne (gcdN_zero z j0 h0)
    omega
  have key : ∀ e : Int, (∀ j, j < n → gcdN n f * e ∣ f j) → e.natAbs = 1 := fun e he => by
    have := dvd_gcdN he
    obtain ⟨c, hc⟩ := this
    have h1 : 1 = e * c := by
      refine Int.eq_of_mul_eq_mul_left (a := gcdN n f) (by omega) ?_
      rw [Int.mul_one, ← Int.mul_assoc]; exact hc
    have h2 : e.natAbs * c.natAbs = 1 := by rw [← Int.natAbs_mul, ← h1]; rfl
    exact Nat.eq_one_of_mul_eq_one_right h2
  refine key d fun j hj => ?_
  have q := hd j hj
  unfold low at q
  by_cases c : gcdN n f < 2
  · rw [if_pos c] at q
    have e1 : gcdN n f = 1 := by omega
    rw [e1, Int.one_mul]; exact q
  · rw [if_neg c] at q
    rw [← Int.mul_ediv_cancel' (gcdN_dvd (f := f) hj)]
    exact Int.mul_dvd_mul_left _ q
/-! ### one column cleared -/
def dot (n : Nat) (f y : Nat → Int) : Int := sumN n fun j => f j * y j
theorem dot_lin {n : Nat} {f g y : Nat → Int} {a b : Int} : dot n (fun j => a * f j + b * g j) y = a * dot n f y + b * dot n g y := by
  unfold dot
  rw [← sumN_lin]
  exact sumN_congr fun j _ => by rw [Int.add_mul, Int.mul_assoc, Int.mul_assoc]
theorem dot_mul {n : Nat} {f h y : Nat → Int} {a : Int} (e : ∀ j, j < n → a * f j = h j) : a * dot n f y = dot n h y := by
  unfold dot
  rw [← sumN_mul]
  exact sumN_congr fun j hj => by rw [← e j hj, Int.mul_assoc]
def swp (W : Nat → Nat → Int) (k f : Nat) : Nat → Nat → Int := fun i => if i = f then W k else if i = k then W f else W i
def crs (W : Nat → Nat → Int) (k i : Nat) : Nat → Int := fun j => W i j * W k k - W i k * W k j
def clr (n : Nat) (W : Nat → Nat → Int) (k : Nat) : Nat → Nat → Int := fun i => if i ≠ k ∧ W i k ≠ 0 then low n (crs W k i) else W i
/-- y solves all rows -/
def Ker (m n : Nat) (W : Nat → Nat → Int) (y : Nat → Int) : Prop := ∀ i, i < m → dot n (W i) y = 0
theorem dot_crs {n k i : Nat} {W : Nat → Nat → Int} {y : Nat → Int} : dot n (crs W k i) y = W k k * dot n (W i) y + -W i k * dot n (W k) y := by
  rw [← dot_lin]
  congr 1
  funext j
  unfold crs
  rw [Int.mul_comm (W i j), Int.neg_mul, Int.sub_eq_add_neg]
theorem ker_swp {m n k f : Nat} {W : Nat → Nat → Int} {y : Nat → Int} (hk : k < m) (hf : f < m) : Ker m n (swp W k f) y ↔ Ker m n W y := by
  constructor
  · intro h i hi
    by_cases e : i = k
    · subst e
      have := h f hf
      unfold swp at this
      rw [if_pos rfl] at this
      exact this
    · by_cases e2 : i = f
      · subst e2
        have := h k hk
        unfold swp at this
        rw [if_neg (Ne.symm e), if_pos rfl] at this
        exact this
      · have := h i hi
        unfold swp at this
        rw [if_neg e2, if_neg e] at this
        exact this
  · intro h i hi
    unfold swp
    by_cases e2 : i = f
    · rw [if_pos e2]; exact h k hk
    · rw [if_neg e2]
      by_cases e : i = k
      · rw [if_pos e]; exact h f hf
      · rw [if_neg e]; exact h i hi
theorem ker_clr {m n k : Nat} {W : Nat → Nat → Int} {y : Nat → Int} (hk : k < m) (hp : W k k ≠ 0) : Ker m n (clr n W k) y ↔ Ker m n W y := by
  have ck : clr n W k k = W k := by unfold clr; rw [if_neg (fun z => z.1 rfl)]
  have key : ∀ i, ∃ g : Int, g ≠ 0 ∧ (i ≠ k → W i k ≠ 0 → g * dot n (clr n W k i) y = W k k * dot n (W i) y + -W i k * dot n (W k) y) := fun i => by
    obtain ⟨g, h1, h2⟩ := low_mul n (crs W k i)
    refine ⟨g, by omega, fun e1 e2 => ?_⟩
    unfold clr
    rw [if_pos ⟨e1, e2⟩, dot_mul h2, dot_crs]
  constructor
  · intro h i hi
    have hk0 := h k hk
    rw [ck] at hk0
    by_cases e : i ≠ k ∧ W i k ≠ 0
    · obtain ⟨g, g0, q⟩ := key i
      have q := q e.1 e.2
      rw [h i hi, hk0, Int.mul_zero, Int.mul_zero, Int.add_zero] at q
      rcases Int.mul_eq_zero.mp q.symm with z | z
      · exact absurd z hp
      · exact z
    · have := h i hi
      unfold clr at this
      rw [if_neg e] at this
      exact this
  · intro h i hi
    by_cases e : i ≠ k ∧ W i k ≠ 0
    · obtain ⟨g, g0, q⟩ := key i
      have q := q e.1 e.2
      rw [h i hi, h k hk, Int.mul_zero, Int.mul_zero, Int.add_zero] at q
      rcases Int.mul_eq_zero.mp q with z | z
      · exact absurd z g0
      · exact z
    · unfold clr
      rw [if_neg e]
      exact h i hi
/-- k columns are cleared -/
structure Shape (m n k : Nat) (W : Nat → Nat → Int) : Prop where
  le : k ≤ m
  piv : ∀ i, i < k → W i i ≠ 0
  off : ∀ i j, i < m → j < k → i ≠ j → W i j = 0
theorem Shape.swap {m n k f : Nat} {W : Nat → Nat → Int} (S : Shape m n k W) (hkf : k ≤ f) (hf : f < m) : Shape m n k (swp W k f) := by
  refine ⟨S.le, fun i hi => ?_, fun i j hi hj ne => ?_⟩
  · unfold swp
    rw [if_neg (by omega), if_neg (by omega)]
    exact S.piv i hi
  · unfold swp
    by_cases e2 : i = f
    · rw [if_pos e2]; exact S.off k j (by omega) hj (by omega)
    · rw [if_neg e2]
      by_cases e : i = k
      · rw [if_pos e]; exact S.off f j hf hj (by omega)
      · rw [if_neg e]; exact S.off i j hi hj ne
theorem Shape.clear {m n k : Nat} {W : Nat → Nat → Int} (S : Shape m n k W) (hk : k < m) (hn : k < n) (hp : W k k ≠ 0) : Shape m n (k + 1) (clr n W k) := by
  refine ⟨hk, fun i hi => ?_, fun i j hi hj ne => ?_⟩
  · unfold clr
    by_cases e : i ≠ k ∧ W i k ≠ 0
    · rw [if_pos e]
      intro z
      rw [low_zero (by omega)] at z
      unfold crs at z
      have e1 := e.1
      rw [S.off k i hk (by omega) (by omega), Int.mul_zero, Int.sub_zero] at z
      rcases Int.mul_eq_zero.mp z with z | z
      · exact S.piv i (by omega) z
      · exact hp z
    · rw [if_neg e]
      by_cases e1 : i = k
      · subst e1; exact hp
      · exact S.piv i (by omega)
  · unfold clr
    by_cases e : i ≠ k ∧ W i k ≠ 0
    · rw [if_pos e, low_zero (by omega)]
      unfold crs
      by_cases ej : j = k
      · subst ej; exact Int.sub_self _
      · rw [S.off i j hi (by omega) ne, S.off k j hk (by omega) (by omega), Int.zero_mul, Int.mul_zero]; rfl
    · rw [if_neg e]
      by_cases ej : j = k
      · subst ej
        exact Classical.byContradiction fun z => e ⟨ne, z⟩
      · exact S.off i j hi (by omega) ne
/-! ### what the rows tell -/
/-- the columns below k are independent -/
def Indep (m n k : Nat) (A : Nat → Nat → Int) : Prop := ∀ y : Nat → Int, (∀ j, k ≤ j → j < n → y j = 0) → Ker m n A y → ∀ j, j < k → y j = 0
theorem Shape.indep {m n k : Nat} {W : Nat → Nat → Int} (S : Shape m n k W) (hn : k ≤ n) : Indep m n k W := fun y hy h j hj => by
  have lm := S.le
  have q := h j (by omega)
  unfold dot at q
  rw [sumN_one (i := j) (by omega) fun i hi ne => ?_] at q
  · rcases Int.mul_eq_zero.mp q with z | z
    · exact absurd z (S.piv j hj)
    · exact z
  · by_cases c : i < k
    · rw [S.off j i (by omega) c (Ne.symm ne), Int.zero_mul]
    · rw [hy i (by omega) hi, Int.mul_zero]
theorem indep_of {m n k : Nat} {A W : Nat → Nat → Int} (h : Indep m n k W) (e : ∀ y, Ker m n W y ↔ Ker m n A y) : Indep m n k A := fun y hy q => h y hy ((e y).mpr q)
/-- the row that dependent_row makes -/
def depR (W : Nat → Nat → Int) (k : Nat) (b : Int) : Nat → Int := fun j => if j = k then b else if j < k then -W j k * (b / W j j) else 0
theorem Shape.ker {m n k : Nat} {W : Nat → Nat → Int} {b : Int} (S : Shape m n k W) (hk : k < n) (h0 : ∀ i, k ≤ i → i < m → W i k = 0) (hb : ∀ i, i < k → W i i ∣ b) : Ker m n W (depR W k b) := fun i hi => by
  unfold dot
  by_cases c : i < k
  · rw [sumN_two (i := i) (k := k) (by omega) hk (by omega) fun l hl h1 h2 => ?_]
    · unfold depR
      rw [if_pos rfl, if_neg (by omega), if_pos c, Int.mul_left_comm, Int.mul_ediv_cancel' (hb i c), Int.neg_mul]
      omega
    · unfold depR
      rw [if_neg h2]
      by_cases c2 : l < k
      · rw [S.off i l hi c2 (Ne.symm h1), Int.zero_mul]
      · rw [if_neg c2, Int.mul_zero]
  · refine sumN_zero fun l hl => ?_
    unfold depR
    by_cases e : l = k
    · subst e; rw [h0 i (by omega) hi, Int.zero_mul]
    · rw [if_neg e]
      by_cases c2 : l < k
      · rw [S.off i l hi c2 (by omega), Int.zero_mul]
      · rw [if_neg c2, Int.mul_zero]
/-- the first column that depends on those before it -/
structure First (m n k : Nat) (A : Nat → Nat → Int) : Prop where
  lt : k < n
  ind : Indep m n k A
  dep : ∃ y : Nat → Int, (∀ j, k < j → j < n → y j = 0) ∧ y k ≠ 0 ∧ Ker m n A y
theorem first_one {m n k l : Nat} {A : Nat → Nat → Int} (h : First m n k A) (h' : First m n l A) : k = l := by
  have key : ∀ {k l : Nat}, First m n k A → First m n l A → ¬ k < l := fun {k l} h h' lt => by
    obtain ⟨y, y1, y2, y3⟩ := h.dep
    exact y2 (h'.ind y (fun j j0 j1 => y1 j (by omega) j1) y3 k lt)
  have := key h h'
  have := key h' h
  omega
theorem first_no {m n k : Nat} {A : Nat → Nat → Int} (h : First m n k A) (h' : Indep m n n A) : False := by
  obtain ⟨y, y1, y2, y3⟩ := h.dep
  exact y2 (h' y (fun j j0 j1 => absurd j0 (by omega)) y3 k h.lt)
/-- two rows that solve all, with nothing behind the first dependent place, lie along each other -/
theorem ker_along {m n k : Nat} {A : Nat → Nat → Int} (hi : Indep m n k A) {x y : Nat → Int} (hx : ∀ j, k < j → j < n → x j = 0) (hy : ∀ j, k < j → j < n → y j = 0) (kx : Ker m n A x) (ky : Ker m n A y) (hk : k < n) : ∀ j, j < n → y k * x j = x k * y j := fun j hj => by
  have q := hi (fun j => y k * x j + -x k * y j) (fun j j0 j1 => ?_) (fun i h => ?_)
  · by_cases c : j < k
    · have := q j c
      rw [Int.neg_mul] at this
      omega
    · by_cases e : j = k
      · subst e; exact Int.mul_comm _ _
      · rw [hx j (by omega) hj, hy j (by omega) hj, Int.mul_zero, Int.mul_zero]
  · by_cases e : j = k
    · subst e; rw [Int.neg_mul, Int.mul_comm]; omega
    · rw [hx j (by omega) j1, hy j (by omega) j1, Int.mul_zero, Int.mul_zero]; rfl
  · have e : dot n (A i) (fun j => y k * x j + -x k * y j) = y k * dot n (A i) x + -x k * dot n (A i) y := by
      unfold dot
      rw [← sumN_lin]
      exact sumN_congr fun j _ => by rw [Int.mul_add, Int.mul_left_comm, Int.mul_left_comm (A i j)]
    rw [e, kx i h, ky i h, Int.mul_zero, Int.mul_zero]; rfl
theorem prim_same {n k : Nat} {x y : Nat → Int} (hk : k < n) (h : ∀ j, j < n → y k * x j = x k * y j) (px : Prim n x) (py : Prim n y) (x0 : 0 < x k) (y0 : 0 < y k) : ∀ j, j < n → x j = y j := by
  have h1 := par_le ⟨y k, x k, by omega, by omega, h⟩ px k hk
  have h2 := par_le (f := y) (g := x) ⟨x k, y k, by omega, by omega, fun j hj => (h j hj).symm⟩ py k hk
  have e : x k = y k := by omega
  intro j hj
  have q := h j hj
  rw [e] at q
  exact Int.eq_of_mul_eq_mul_left (by omega) q
end KN

/-! KN3: the sizes of kernel_row's rows; the law's own elimination. -/
namespace KN
open LP
/-- the rows lie along the determinants' table, and are small -/
structure Small (m n k : Nat) (A W : Nat → Nat → Int) : Prop where
  ex : ∃ (B : Mat) (p : Nat → Nat), Tells m n (col m A) B ∧ (∀ i, i < m → p i < m) ∧ (∀ i j, i < m → j < m → p i = p j → i = j) ∧ (∀ i, i < m → Par n (W i) (R m (col m A) B (p i))) ∧
    ∀ c, c < m → suA m (fun i => B i c) ≤ 1 + suA k fun j => A c j
  low : ∀ i, i < m → Prim n (W i) ∨ (∀ j, j < n → W i j = 0) ∨ ∃ i', i' < m ∧ W i = A i'
theorem suA_I1 : ∀ {m c : Nat}, c < m → suA m (fun i => I1 i c) = 1 := by
  have z : ∀ {m c : Nat}, m ≤ c → suA m (fun i => I1 i c) = 0 := by
    intro m
    induction m with
    | zero => intro c _; rfl
    | succ m ih =>
      intro c h
      show suA m (fun i => I1 i c) + (I1 m c).natAbs = 0
      rw [ih (by omega)]
      unfold I1
      rw [if_neg (by omega)]
      rfl
  intro m
  induction m with
  | zero => intro c h; omega
  | succ m ih =>
    intro c h
    show suA m (fun i => I1 i c) + (I1 m c).natAbs = 1
    by_cases e : c = m
    · subst e
      rw [z (Nat.le_refl _)]
      unfold I1
      rw [if_pos rfl]
      rfl
    · rw [ih (by omega)]
      unfold I1
      rw [if_neg (by omega)]
      rfl
theorem small_start (m n : Nat) (A : Nat → Nat → Int) : Small m n 0 A A :=
  ⟨⟨I1, fun i => i, tells_start m n A, fun i h => h, fun i j _ _ e => e, fun i hi => ⟨1, 1, by decide, by decide, fun j _ => by rw [R_start hi]⟩, fun c hc => by rw [suA_I1 hc]; exact Nat.le_add_right _ _⟩, fun i hi => .inr (.inr ⟨i, hi, rfl⟩)⟩
theorem Small.swap {m n k f : Nat} {A W : Nat → Nat → Int} (h : Small m n k A W) (hk : k < m) (hf : f < m) : Small m n k A (swp W k f) := by
  obtain ⟨⟨B, p, T, p1, p2, p3, p4⟩, lo⟩ := h
  let q : Nat → Nat := fun i => if i = f then k else if i = k then f else i
  have qm : ∀ i, i < m → q i < m := fun i hi => by show (if i = f then k else if i = k then f else i) < m; split <;> first | exact hk | (split <;> first | exact hf | exact hi)
  have qs : ∀ i, swp W k f i = W (q i) := fun i => by
    show (if i = f then W k else if i = k then W f else W i) = W (if i = f then k else if i = k then f else i)
    split <;> first | rfl | (split <;> rfl)
  have qi : ∀ i j, q i = q j → i = j := fun i j e => by
    have e : (if i = f then k else if i = k then f else i) = (if j = f then k else if j = k then f else j) := e
    split at e <;> split at e <;> (try split at e) <;> (try split at e) <;> omega
  refine ⟨⟨B, fun i => p (q i), T, fun i hi => p1 _ (qm i hi), fun i j hi hj e => qi i j (p2 _ _ (qm i hi) (qm j hj) e), fun i hi => ?_, p4⟩, fun i hi => ?_⟩
  · rw [qs]; exact p3 _ (qm i hi)
  · rw [qs]; exact lo _ (qm i hi)
theorem Small.clear {m n k : Nat} {A W : Nat → Nat → Int} (h : Small m n k A W) (hk : k < m) (hn : k < n) (hp : W k k ≠ 0) : Small m n (k + 1) A (clr n W k) := by
  obtain ⟨⟨B, p, T, p1, p2, p3, p4⟩, lo⟩ := h
  obtain ⟨sk, tk, sk0, tk0, ek⟩ := p3 k hk
  have hR : R m (col m A) B (p k) k ≠ 0 := fun z => by
    have := ek k hn
    rw [z, Int.mul_zero] at this
    rcases Int.mul_eq_zero.mp this with z | z
    · exact sk0 z
    · exact hp z
  have T2 := T.step (p1 k hk) hn hR
  have d0 := T.det
  refine ⟨⟨up B (p k) (col m A k), p, T2, p1, p2, fun i hi => ?_, fun c hc => ?_⟩, fun i hi => ?_⟩
  · by_cases e : i = k
    · subst e
      have : clr n W i i = W i := by unfold clr; rw [if_neg fun z => z.1 rfl]
      rw [this]
      exact ⟨sk, tk, sk0, tk0, fun j hj => by rw [R_same]; exact ek j hj⟩
    · obtain ⟨si, ti, si0, ti0, ei⟩ := p3 i hi
      have ne : p i ≠ p k := fun z => e (p2 i k hi hk z)
      have wh : ∀ j, D m B * R m (col m A) (up B (p k) (col m A k)) (p i) j = R m (col m A) B (p i) j * R m (col m A) B (p k) k - R m (col m A) B (p i) k * R m (col m A) B (p k) j := fun j => T.whole (p1 k hk) hn (p1 i hi) ne
      by_cases c : W i k = 0
      · have : clr n W k i = W i := by unfold clr; rw [if_neg fun z => z.2 c]
        rw [this]
        have rz : R m (col m A) B (p i) k = 0 := by
          have := ei k hn
          rw [c, Int.mul_zero] at this
          rcases Int.mul_eq_zero.mp this.symm with z | z
          · exact absurd z ti0
          · exact z
        refine ⟨si * R m (col m A) B (p k) k, ti * D m B, Int.mul_ne_zero si0 hR, Int.mul_ne_zero ti0 d0, fun j hj => ?_⟩
        rw [Int.mul_assoc ti, wh, rz, Int.zero_mul, Int.sub_zero, ← Int.mul_assoc, ← ei j hj]
        rw [Int.mul_assoc, Int.mul_assoc, Int.mul_comm (W i j)]
      · obtain ⟨g, g1, g2⟩ := low_mul n (crs W k i)
        have : clr n W k i = KN.low n (crs W k i) := by unfold clr; rw [if_pos ⟨e, c⟩]
        rw [this]
        refine ⟨si * sk * g, ti * tk * D m B, Int.mul_ne_zero (Int.mul_ne_zero si0 sk0) (by omega), Int.mul_ne_zero (Int.mul_ne_zero ti0 tk0) d0, fun j hj => ?_⟩
        rw [Int.mul_assoc _ g, g2 j hj, Int.mul_assoc _ (D m B), wh]
        unfold crs
        have e1 := ei j hj
        have e2 := ei k hn
        have e3 := ek j hj
        have e4 := ek k hn
        rw [Int.mul_sub, Int.mul_sub]
        have a1 : si * sk * (W i j * W k k) = (si * W i j) * (sk * W k k) := by simp only [Int.mul_assoc, Int.mul_left_comm, Int.mul_comm]
        have a2 : si * sk * (W i k * W k j) = (si * W i k) * (sk * W k j) := by simp only [Int.mul_assoc, Int.mul_left_comm, Int.mul_comm]
        have a3 : ∀ x y : Int, ti * tk * (x * y) = (ti * x) * (tk * y) := fun x y => by simp only [Int.mul_assoc, Int.mul_left_comm, Int.mul_comm]
        rw [a1, a2, a3, a3, e1, e2, e3, e4]
  · refine Nat.le_trans suA_up ?_
    have : (col m A k c) = A c k := by unfold col; rw [if_pos hc]
    rw [this]
    have := p4 c hc
    show _ ≤ 1 + (suA k (fun j => A c j) + (A c k).natAbs)
    omega
  · unfold clr
    by_cases c : i ≠ k ∧ W i k ≠ 0
    · rw [if_pos c]
      by_cases z : ∀ j, j < n → crs W k i j = 0
      · exact .inr (.inl fun j hj => (low_zero hj).mpr (z j hj))
      · obtain ⟨j, hj⟩ := Classical.not_forall.mp z
        obtain ⟨hj, ne⟩ := Classical.not_imp.mp hj
        exact .inl (low_prim hj ne)
    · rw [if_neg c]; exact lo i hi
/-- the size of the rows: E, for a bound P of the product of the rows' sums -/
theorem Small.size {m n k : Nat} {A W : Nat → Nat → Int} {P : Nat} (h : Small m n k A W) (hkn : k ≤ n) (hA : ∀ i j, i < m → j < n → (A i j).natAbs ≤ P) (hP : pr m (fun c => 1 + 2 * suA n fun j => A c j) ≤ P) {i j : Nat} (hi : i < m) (hj : j < n) : (W i j).natAbs ≤ P := by
  obtain ⟨⟨B, p, T, p1, p2, p3, p4⟩, lo⟩ := h
  rcases lo i hi with z | z | ⟨i', h1, h2⟩
  · refine Nat.le_trans (par_le (p3 i hi) z j hj) ?_
    refine Nat.le_trans (R_size (S := fun c => 1 + suA k fun j => A c j) p4) (Nat.le_trans (pr_mono fun c hc => ?_) hP)
    have e : (col m A j c) = A c j := by unfold col; rw [if_pos hc]
    rw [e]
    have h1 : (A c j).natAbs ≤ suA n fun j => A c j := suA_at (f := fun j => A c j) hj
    have h2 : (suA k fun j => A c j) ≤ suA n fun j => A c j := by
      have : ∀ (d : Nat), (suA k fun j => A c j) ≤ suA (k + d) fun j => A c j := by
        intro d
        induction d with
        | zero => exact Nat.le_refl _
        | succ d ih => exact Nat.le_trans ih (Nat.le_add_right _ _)
      have := this (n - k)
      rw [show k + (n - k) = n by omega] at this
      exact this
    omega
  · rw [z j hj]; exact Nat.zero_le _
  · rw [h2]; exact hA i' j h1 hj
/-! ### the law's own elimination -/
def clL (W : Nat → Nat → Int) (k : Nat) : Nat → Nat → Int := fun i => if k < i then crs W k i else W i
structure Tri (m n k : Nat) (W : Nat → Nat → Int) : Prop where
  le : k ≤ m
  piv : ∀ i, i < k → W i i ≠ 0
  off : ∀ i j, i < m → j < k → j < i → W i j = 0
theorem Tri.swap {m n k f : Nat} {W : Nat → Nat → Int} (S : Tri m n k W) (hkf : k ≤ f) (hf : f < m) : Tri m n k (swp W k f) := by
  refine ⟨S.le, fun i hi => ?_, fun i j hi hj ne => ?_⟩
  · unfold swp
    rw [if_neg (by omega), if_neg (by omega)]
    exact S.piv i hi
  · unfold swp
    by_cases e2 : i = f
    · rw [if_pos e2]; exact S.off k j (by omega) hj (by omega)
    · rw [if_neg e2]
      by_cases e : i = k
      · rw [if_pos e]; exact S.off f j hf hj (by omega)
      · rw [if_neg e]; exact S.off i j hi hj ne
theorem Tri.clear {m n k : Nat} {W : Nat → Nat → Int} (S : Tri m n k W) (hk : k < m) (hp : W k k ≠ 0) : Tri m n (k + 1) (clL W k) := by
  refine ⟨hk, fun i hi => ?_, fun i j hi hj ne => ?_⟩
  · unfold clL
    rw [if_neg (by omega)]
    by_cases e1 : i = k
    · subst e1; exact hp
    · exact S.piv i (by omega)
  · unfold clL
    by_cases e : k < i
    · rw [if_pos e]
      unfold crs
      by_cases ej : j = k
      · subst ej; exact Int.sub_self _
      · rw [S.off i j hi (by omega) ne, S.off k j hk (by omega) (by omega), Int.zero_mul, Int.mul_zero]; rfl
    · rw [if_neg e]
      exact S.off i j hi (by omega) ne
theorem ker_clL {m n k : Nat} {W : Nat → Nat → Int} {y : Nat → Int} (hk : k < m) (hp : W k k ≠ 0) : Ker m n (clL W k) y ↔ Ker m n W y := by
  have ck : clL W k k = W k := by unfold clL; rw [if_neg (by omega)]
  constructor
  · intro h i hi
    have hk0 := h k hk
    rw [ck] at hk0
    by_cases e : k < i
    · have q := h i hi
      unfold clL at q
      rw [if_pos e, dot_crs, hk0, Int.mul_zero, Int.add_zero] at q
      rcases Int.mul_eq_zero.mp q with z | z
      · exact absurd z hp
      · exact z
    · have := h i hi
      unfold clL at this
      rw [if_neg e] at this
      exact this
  · intro h i hi
    unfold clL
    by_cases e : k < i
    · rw [if_pos e, dot_crs, h i hi, h k hk, Int.mul_zero, Int.mul_zero]; rfl
    · rw [if_neg e]
      exact h i hi
theorem Tri.indep {m n k : Nat} {W : Nat → Nat → Int} (S : Tri m n k W) (hn : k ≤ n) : Indep m n k W := fun y hy h => by
  have lm := S.le
  -- from the last one on
  have key : ∀ d, d ≤ k → ∀ j, k - d ≤ j → j < n → y j = 0 := by
    intro d
    induction d with
    | zero => intro _ j j0 j1; exact hy j (by omega) j1
    | succ d ih =>
      intro hd j j0 j1
      by_cases c : k - d ≤ j
      · exact ih (by omega) j c j1
      · have q := h j (by omega)
        unfold dot at q
        rw [sumN_one (i := j) j1 fun i hi ne => ?_] at q
        · rcases Int.mul_eq_zero.mp q with z | z
          · exact absurd z (S.piv j (by omega))
          · exact z
        · by_cases c : i < j
          · rw [S.off j i (by omega) (by omega) c, Int.zero_mul]
          · rw [ih (by omega) i (by omega) hi, Int.mul_zero]
  exact fun j hj => key k (Nat.le_refl _) j (by omega) (by omega)
theorem Tri.dep {m n k : Nat} {W : Nat → Nat → Int} (S : Tri m n k W) (hk : k < n) (h0 : ∀ i, k ≤ i → i < m → W i k = 0) : ∃ y : Nat → Int, (∀ j, k < j → j < n → y j = 0) ∧ y k ≠ 0 ∧ Ker m n W y := by
  have lm := S.le
  have key : ∀ d, d ≤ k → ∃ y : Nat → Int, (∀ j, k < j → j < n → y j = 0) ∧ (∀ j, j < k - d → y j = 0) ∧ y k ≠ 0 ∧ ∀ i, k - d ≤ i → i < k → dot n (W i) y = 0 := by
    intro d
    induction d with
    | zero => exact fun _ => ⟨fun j => if j = k then 1 else 0, fun j j0 _ => if_neg (by omega), fun j j0 => if_neg (by omega), by dsimp only; rw [if_pos rfl]; decide, fun i i0 i1 => by omega⟩
    | succ d ih =>
      intro hd
      obtain ⟨y, y1, y2, y3, y4⟩ := ih (by omega)
      have pv := S.piv (k - (d + 1)) (by omega)
      refine ⟨fun j => if j = k - (d + 1) then -dot n (W (k - (d + 1))) y else W (k - (d + 1)) (k - (d + 1)) * y j, fun j j0 j1 => ?_, fun j j0 => ?_, ?_, fun i i0 i1 => ?_⟩
      · dsimp only; rw [if_neg (by omega), y1 j j0 j1, Int.mul_zero]
      · dsimp only; rw [if_neg (by omega), y2 j (by omega), Int.mul_zero]
      · dsimp only; rw [if_neg (by omega)]; exact Int.mul_ne_zero pv y3
      · have e : dot n (W i) (fun j => if j = k - (d + 1) then -dot n (W (k - (d + 1))) y else W (k - (d + 1)) (k - (d + 1)) * y j) = W (k - (d + 1)) (k - (d + 1)) * dot n (W i) y + W i (k - (d + 1)) * -dot n (W (k - (d + 1))) y := by
          have e1 : (sumN n fun j => if j = k - (d + 1) then W i j * -dot n (W (k - (d + 1))) y else 0) = W i (k - (d + 1)) * -dot n (W (k - (d + 1))) y := by
            rw [sumN_one (i := k - (d + 1)) (by omega) fun l _ ne => if_neg ne, if_pos rfl]
          rw [← e1]
          unfold dot
          rw [← sumN_mul, ← sumN_add]
          refine sumN_congr fun j hj => ?_
          dsimp only
          by_cases c : j = k - (d + 1)
          · rw [if_pos c, if_pos c, y2 j (by omega), Int.mul_zero, Int.mul_zero, Int.zero_add]
          · rw [if_neg c, if_neg c, Int.add_zero, Int.mul_left_comm]
        rw [e]
        by_cases c : i = k - (d + 1)
        · subst c
          rw [Int.mul_neg]; omega
        · rw [y4 i (by omega) i1, S.off i (k - (d + 1)) (by omega) (by omega) (by omega), Int.mul_zero, Int.zero_mul]; rfl
  obtain ⟨y, y1, y2, y3, y4⟩ := key k (Nat.le_refl _)
  refine ⟨y, y1, y3, fun i hi => ?_⟩
  by_cases c : i < k
  · exact y4 i (by omega) c
  · unfold dot
    refine sumN_zero fun l hl => ?_
    by_cases e : l = k
    · subst e; rw [h0 i (by omega) hi, Int.zero_mul]
    · by_cases c2 : l < k
      · rw [S.off i l hi c2 (by omega), Int.zero_mul]
      · rw [y1 l (by omega) hl, Int.mul_zero]
end KN

namespace K08
open PySem PySem.Spec PyProof.Rows L2 PT
/-- common_divisor -/
def d0 : Def := { name := "common_divisor", ps := ["numbers"], N := ["numbers", "shared", "number"], rd := 0, body := (.cons (.asg 1 none (.int 0)) (.cons (.for_ (.seq 2 (.var 0)) (.cons (.asg 1 none (.gcd (.var 1) (.var 2))) (.cons (.fgt [2]) .nil))) (.cons (.ret (.var 1)) .nil))) }
/-- lowered_row -/
def d1 : Def := { name := "lowered_row", ps := ["row"], N := ["row", "shared", "number"], rd := 0, body := (.cons (.asg 1 none (.call 0 false [] (.cons (.var 0) .nil))) (.cons (.ite (.cmp .lt (.var 1) (.int 2)) (.cons (.ret (.blt .tuple (.cons (.var 0) .nil))) .nil) .nil) (.cons (.ret (.blt .tuple (.cons (.lc 0 (.seq 2 (.var 0)) .nil (.bin .fdivW (.var 2) (.var 1))) .nil))) .nil))) }
/-- common_multiple -/
def d2 : Def := { name := "common_multiple", ps := ["numbers"], N := ["numbers", "multiple", "number"], rd := 0, body := (.cons (.asg 1 none (.int 1)) (.cons (.for_ (.seq 2 (.var 0)) (.cons (.asg 1 none (.bin .mul (.bin .fdivW (.var 1) (.gcd (.var 1) (.var 2))) (.var 2))) (.cons (.fgt [2]) .nil))) (.cons (.ret (.var 1)) .nil))) }
/-- pivot_index -/
def d3 : Def := { name := "pivot_index", ps := ["work", "start", "column"], N := ["work", "start", "column", "at"], rd := 0, body := (.cons (.for_ (.rng 3 (.cons (.var 1) (.cons (.blt .len (.cons (.var 0) .nil)) .nil))) (.cons (.ite (.cmp .ne (.idx (.idx (.var 0) (.var 3)) (.var 2)) (.int 0)) (.cons (.ret (.var 3)) .nil) .nil) (.cons (.fgt [3]) .nil))) (.cons (.ret (.non)) .nil)) }
/-- cleared_rows -/
def d4 : Def := { name := "cleared_rows", ps := ["work", "chosen", "column"], N := ["work", "chosen", "column", "pivot", "cleared", "at", "row", "factor", "number", "other"], rd := 1, body := (.cons (.asg 3 none (.idx (.idx (.var 0) (.var 1)) (.var 2))) (.cons (.asg 4 (some 1) (.lst 0 .nil)) (.cons (.for_ (.rng 5 (.cons (.blt .len (.cons (.var 0) .nil)) .nil)) (.cons (.asg 6 none (.idx (.var 0) (.var 5))) (.cons (.ite (.bop true (.cmp .ne (.var 5) (.var 1)) (.cons (.cmp .ne (.idx (.var 6) (.var 2)) (.int 0)) .nil)) (.cons (.asg 7 none (.idx (.var 6) (.var 2))) (.cons (.asg 6 none (.call 1 false [] (.cons (.lc 0 (.zip 8 9 (.var 6) (.idx (.var 0) (.var 1))) .nil (.bin .sub (.bin .mul (.var 8) (.var 3)) (.bin .mul (.var 7) (.var 9)))) .nil))) .nil)) .nil) (.cons (.fgt [7]) (.cons (.app 4 .nil (.var 6)) (.cons (.fgt [5, 6, 7]) .nil)))))) (.cons (.retV 4) .nil)))) }
/-- dependent_row -/
def d5 : Def := { name := "dependent_row", ps := ["work", "pivots", "column", "width"], N := ["work", "pivots", "column", "width", "bottom", "row", "at"], rd := 0, body := (.cons (.asg 4 none (.call 2 false [] (.cons (.lc 0 (.rng 6 (.cons (.blt .len (.cons (.var 1) .nil)) .nil)) .nil (.blt .abs (.cons (.idx (.idx (.var 0) (.var 6)) (.idx (.var 1) (.var 6))) .nil))) .nil))) (.cons (.asg 5 (some 1) (.bin .mul (.lst 0 (.cons (.int 0) .nil)) (.var 3))) (.cons (.sto 5 .nil (.var 2) (.var 4)) (.cons (.for_ (.rng 6 (.cons (.blt .len (.cons (.var 1) .nil)) .nil)) (.cons (.sto 5 .nil (.idx (.var 1) (.var 6)) (.bin .mul (.neg (.idx (.idx (.var 0) (.var 6)) (.var 2))) (.bin .fdivW (.var 4) (.idx (.idx (.var 0) (.var 6)) (.idx (.var 1) (.var 6)))))) (.cons (.fgt [6]) .nil))) (.cons (.frz 5) (.cons (.ret (.call 1 false [] (.cons (.var 5) .nil))) .nil)))))) }
/-- kernel_row -/
def d6 : Def := { name := "kernel_row", ps := ["rows", "width"], N := ["rows", "width", "work", "pivots", "column", "found", "top", "row"], rd := 0, body := (.cons (.asg 2 (some 1) (.lc 0 (.seq 7 (.var 0)) .nil (.blt .tuple (.cons (.var 7) .nil)))) (.cons (.asg 3 (some 1) (.lst 0 .nil)) (.cons (.for_ (.rng 4 (.cons (.var 1) .nil)) (.cons (.asg 5 none (.call 3 true [] (.cons (.var 2) (.cons (.blt .len (.cons (.var 3) .nil)) (.cons (.var 4) .nil))))) (.cons (.ite (.cmp .isN (.var 5) (.non)) (.cons (.ret (.call 5 true [] (.cons (.var 2) (.cons (.var 3) (.cons (.var 4) (.cons (.var 1) .nil)))))) .nil) .nil) (.cons (.asg 6 none (.idx (.var 2) (.blt .len (.cons (.var 3) .nil)))) (.cons (.sto 2 .nil (.blt .len (.cons (.var 3) .nil)) (.idx (.var 2) (.var 5))) (.cons (.sto 2 .nil (.var 5) (.var 6)) (.cons (.asg 2 (some 1) (.callB 4 (.cons (.var 2) (.cons (.blt .len (.cons (.var 3) .nil)) (.cons (.var 4) .nil))))) (.cons (.app 3 .nil (.var 4)) (.cons (.fgt [4, 5, 6]) .nil))))))))) (.cons (.ret (.non)) .nil)))) }
/-- _law_whole -/
def d7 : Def := { name := "_law_whole", ps := ["value"], N := ["value"], rd := 0, body := (.cons (.ret (.bop true (.isin (.var 0) [.kInt]) (.cons (.not (.isin (.var 0) [.kBool])) .nil))) .nil) }
/-- _law_cell -/
def d8 : Def := { name := "_law_cell", ps := ["script", "k"], N := ["script", "k", "seed", "cell"], rd := 0, body := (.cons (.ite (.cmp .lt (.var 1) (.blt .len (.cons (.var 0) .nil))) (.cons (.ret (.idx (.var 0) (.var 1))) .nil) .nil) (.cons (.asg 2 none (.int 17)) (.cons (.for_ (.seq 3 (.var 0)) (.cons (.asg 2 none (.bin .mod (.blt .int (.cons (.bin .add (.bin .mul (.var 2) (.int 31)) (.bin .mod (.blt .int (.cons (.var 3) .nil)) (.int 1000003))) .nil)) (.int 1000003))) (.cons (.fgt [3]) .nil))) (.cons (.ret (.bin .mod (.blt .int (.cons (.bin .mul (.bin .mul (.bin .add (.var 2) (.int 7)) (.bin .add (.var 1) (.int 3))) (.int 69621)) .nil)) (.int 2147483647))) .nil)))) }
/-- _law_digits -/
def d9 : Def := { name := "_law_digits", ps := ["cell", "sizes"], N := ["cell", "sizes", "drawn", "rest", "seed", "k", "size", "twice"], rd := 0, body := (.cons (.asg 2 (some 1) (.lst 0 .nil)) (.cons (.asg 3 none (.blt .int (.cons (.var 0) .nil))) (.cons (.ite (.cmp .ge (.var 3) (.bin .pow (.int 10) (.int 18))) (.cons (.asg 3 none (.bin .sub (.var 3) (.bin .pow (.int 10) (.int 18)))) (.cons (.for_ (.seq 6 (.var 1)) (.cons (.app 2 .nil (.bin .mod (.blt .int (.cons (.var 3) .nil)) (.var 6))) (.cons (.asg 3 none (.bin .fdiv (.blt .int (.cons (.var 3) .nil)) (.var 6))) (.cons (.fgt [6]) .nil)))) (.cons (.ret (.var 2)) .nil))) .nil) (.cons (.fgt [6]) (.cons (.asg 4 none (.bin .mod (.blt .int (.cons (.var 3) .nil)) (.int 2147483629))) (.cons (.for_ (.rng 5 (.cons (.blt .len (.cons (.var 1) .nil)) .nil)) (.cons (.asg 4 none (.bin .mod (.blt .int (.cons (.bin .add (.bin .add (.bin .mul (.var 4) (.int 48271)) (.bin .mul (.int 974711) (.var 5))) (.int 12345)) .nil)) (.int 2147483647))) (.cons (.asg 7 none (.bin .mod (.blt .int (.cons (.bin .mul (.var 4) (.bin .add (.bin .fdiv (.var 4) (.int 65537)) (.int 3))) .nil)) (.int 2147483629))) (.cons (.app 2 .nil (.bin .mod (.bin .fdiv (.var 7) (.int 19)) (.idx (.var 1) (.var 5)))) (.cons (.fgt [5, 7]) .nil))))) (.cons (.frz 2) (.cons (.ret (.var 2)) .nil)))))))) }
/-- _law_dot -/
def d10 : Def := { name := "_law_dot", ps := ["left", "right"], N := ["left", "right", "total", "k"], rd := 0, body := (.cons (.asg 2 none (.int 0)) (.cons (.for_ (.rng 3 (.cons (.blt .len (.cons (.var 0) .nil)) .nil)) (.cons (.asg 2 none (.bin .add (.var 2) (.bin .mul (.idx (.var 0) (.var 3)) (.idx (.var 1) (.var 3))))) (.cons (.fgt [3]) .nil))) (.cons (.ret (.var 2)) .nil))) }
/-- _law_gcd -/
def d11 : Def := { name := "_law_gcd", ps := ["left", "right"], N := ["left", "right", "rest"], rd := 0, body := (.cons (.asg 0 none (.blt .abs (.cons (.var 0) .nil))) (.cons (.asg 1 none (.blt .abs (.cons (.var 1) .nil))) (.cons (.whl (.cmp .ne (.var 1) (.int 0)) (.cons (.asg 2 none (.bin .mod (.blt .int (.cons (.var 0) .nil)) (.var 1))) (.cons (.asg 0 none (.var 1)) (.cons (.asg 1 none (.var 2)) (.cons (.fgt [2]) .nil))))) (.cons (.ret (.var 0)) .nil)))) }
/-- _law_dependent -/
def d12 : Def := { name := "_law_dependent", ps := ["lines", "span"], N := ["lines", "span", "work", "column", "found", "at", "chosen", "line", "factor", "k"], rd := 0, body := (.cons (.asg 2 (some 1) (.lc 0 (.seq 7 (.var 0)) .nil (.blt .list (.cons (.var 7) .nil)))) (.cons (.for_ (.rng 3 (.cons (.var 1) .nil)) (.cons (.asg 4 none (.non)) (.cons (.for_ (.rng 5 (.cons (.var 3) (.cons (.blt .len (.cons (.var 2) .nil)) .nil))) (.cons (.ite (.bop true (.cmp .isN (.var 4) (.non)) (.cons (.cmp .ne (.idx (.idx (.var 2) (.var 5)) (.var 3)) (.int 0)) .nil)) (.cons (.asg 4 none (.var 5)) .nil) .nil) (.cons (.fgt [5]) .nil))) (.cons (.ite (.cmp .isN (.var 4) (.non)) (.cons (.ret (.var 3)) .nil) .nil) (.cons (.asg 6 none (.idx (.var 2) (.var 4))) (.cons (.sto 2 .nil (.var 4) (.idx (.var 2) (.var 3))) (.cons (.sto 2 .nil (.var 3) (.var 6)) (.cons (.for_ (.rng 5 (.cons (.bin .add (.var 3) (.int 1)) (.cons (.blt .len (.cons (.var 2) .nil)) .nil))) (.cons (.asg 8 none (.idx (.idx (.var 2) (.var 5)) (.var 3))) (.cons (.sto 2 .nil (.var 5) (.lc 0 (.rng 9 (.cons (.var 1) .nil)) .nil (.bin .sub (.bin .mul (.idx (.idx (.var 2) (.var 5)) (.var 9)) (.idx (.var 6) (.var 3))) (.bin .mul (.var 8) (.idx (.var 6) (.var 9)))))) (.cons (.fgt [5, 8]) .nil)))) (.cons (.fgt [3, 4, 5, 6, 8]) .nil))))))))) (.cons (.ret (.non)) .nil))) }
/-- _law_added -/
def d13 : Def := { name := "_law_added", ps := ["line", "other", "factor"], N := ["line", "other", "factor", "k"], rd := 1, body := (.cons (.ret (.lc 0 (.rng 3 (.cons (.blt .len (.cons (.var 0) .nil)) .nil)) .nil (.bin .add (.idx (.var 0) (.var 3)) (.bin .mul (.var 2) (.idx (.var 1) (.var 3)))))) .nil) }
/-- _law_small_lines -/
def d14 : Def := { name := "_law_small_lines", ps := ["script", "span", "many", "form", "free"], N := ["script", "span", "many", "form", "free", "drawn", "scales", "menu", "sizes", "lines", "j", "line", "scale", "k", "number"], rd := 0, body := (.cons (.asg 5 none (.call 9 false [] (.cons (.call 8 false [] (.cons (.var 0) (.cons (.int 2) .nil))) (.cons (.bin .mul (.lst 0 (.cons (.int 2000001) .nil)) (.int 56)) .nil)))) (.cons (.asg 6 none (.call 9 false [] (.cons (.call 8 false [] (.cons (.var 0) (.cons (.int 3) .nil))) (.cons (.bin .mul (.lst 0 (.cons (.int 4) (.cons (.int 2) .nil))) (.int 8)) .nil)))) (.cons (.asg 7 none (.lst 0 (.cons (.int 0) (.cons (.int 0) (.cons (.int 1) (.cons (.neg (.int 1)) (.cons (.int 2) (.cons (.neg (.int 3)) (.cons (.int 5) (.cons (.int 0) (.cons (.int 1) .nil))))))))))) (.cons (.asg 8 none (.lc 0 (.rng 13 (.cons (.int 56) .nil)) .nil (.idx (.var 7) (.bin .mod (.idx (.var 5) (.var 13)) (.int 9))))) (.cons (.ite (.var 4) (.cons (.asg 8 none (.lc 0 (.seq 14 (.var 5)) .nil (.bin .sub (.var 14) (.int 1000000)))) .nil) .nil) (.cons (.asg 9 (some 2) (.lc 1 (.rng 10 (.cons (.var 2) .nil)) .nil (.slc (.var 8) (.some (.bin .mul (.int 7) (.var 10))) (.some (.bin .add (.bin .mul (.int 7) (.var 10)) (.var 1)))))) (.cons (.ite (.bop true (.cmp .eq (.var 3) (.int 1)) (.cons (.cmp .gt (.var 2) (.int 2)) .nil)) (.cons (.sto 9 .nil (.bin .sub (.var 2) (.int 1)) (.callB 13 (.cons (.idx (.var 9) (.int 0)) (.cons (.idx (.var 9) (.int 1)) (.cons (.int 1) .nil))))) .nil) .nil) (.cons (.ite (.bop true (.bop false (.cmp .eq (.var 3) (.int 2)) (.cons (.cmp .eq (.var 3) (.int 3)) .nil)) (.cons (.cmp .gt (.var 1) (.int 1)) .nil)) (.cons (.forO 11 9 (.cons (.sto 11 .nil (.bin .fdiv (.var 1) (.int 2)) (.bin .add (.bin .mul (.int 2) (.idx (.var 11) (.int 0))) (.bin .mul (.blt .int (.cons (.cmp .eq (.var 3) (.int 3)) .nil)) (.idx (.var 11) (.bin .fdiv (.var 1) (.int 4)))))) (.cons (.fgt [11]) .nil))) .nil) .nil) (.cons (.fgt [11]) (.cons (.for_ (.rng 10 (.cons (.var 2) .nil)) (.cons (.asg 12 none (.bin .mul (.idx (.lst 0 (.cons (.int 1) (.cons (.int 6) (.cons (.int 35) (.cons (.bin .add (.bin .pow (.int 10) (.int 20)) (.int 39)) .nil))))) (.idx (.var 6) (.bin .mul (.int 2) (.var 10)))) (.bin .sub (.int 1) (.bin .mul (.int 2) (.idx (.var 6) (.bin .add (.bin .mul (.int 2) (.var 10)) (.int 1))))))) (.cons (.sto 9 .nil (.var 10) (.lc 0 (.seq 14 (.idx (.var 9) (.var 10))) .nil (.bin .mul (.var 14) (.var 12)))) (.cons (.fgt [10, 12]) .nil)))) (.cons (.frz 9) (.cons (.ret (.var 9)) .nil)))))))))))) }
/-- _law_small_right -/
def d15 : Def := { name := "_law_small_right", ps := ["script"], N := ["script", "shape", "span", "lines", "due", "given", "found", "shared", "number", "line", "k"], rd := 0, body := (.cons (.asg 1 none (.call 9 false [] (.cons (.call 8 false [] (.cons (.var 0) (.cons (.int 1) .nil))) (.cons (.lst 0 (.cons (.int 7) (.cons (.int 9) (.cons (.int 5) (.cons (.int 2) (.cons (.int 3) .nil)))))) .nil)))) (.cons (.asg 2 none (.bin .add (.int 1) (.idx (.var 1) (.int 0)))) (.cons (.asg 3 none (.call 14 false [] (.cons (.var 0) (.cons (.var 2) (.cons (.idx (.var 1) (.int 1)) (.cons (.idx (.var 1) (.int 2)) (.cons (.cmp .eq (.idx (.var 1) (.int 4)) (.int 0)) .nil))))))) (.cons (.asg 4 none (.call 12 false [] (.cons (.var 3) (.cons (.var 2) .nil)))) (.cons (.asg 5 none (.lc 0 (.seq 9 (.var 3)) .nil (.idx (.lst 0 (.cons (.blt .tuple (.cons (.var 9) .nil)) (.cons (.blt .list (.cons (.var 9) .nil)) .nil))) (.idx (.var 1) (.int 3))))) (.cons (.asg 6 none (.call 6 false [] (.cons (.var 5) (.cons (.var 2) .nil)))) (.cons (.ite (.cmp .ne (.lc 0 (.seq 9 (.var 5)) .nil (.blt .list (.cons (.var 9) .nil))) (.var 3)) (.cons (.ret (.bl false)) .nil) .nil) (.cons (.ite (.cmp .isN (.var 4) (.non)) (.cons (.ret (.cmp .isN (.var 6) (.non))) .nil) .nil) (.cons (.ite (.bop false (.not (.isin (.var 6) [.kTuple])) (.cons (.cmp .ne (.blt .len (.cons (.var 6) .nil)) (.var 2)) .nil)) (.cons (.ret (.bl false)) .nil) .nil) (.cons (.asg 7 none (.int 0)) (.cons (.for_ (.seq 8 (.var 6)) (.cons (.ite (.not (.call 7 false [] (.cons (.var 8) .nil))) (.cons (.ret (.bl false)) .nil) .nil) (.cons (.asg 7 none (.call 11 false [] (.cons (.var 7) (.cons (.var 8) .nil)))) (.cons (.fgt [8]) .nil)))) (.cons (.for_ (.seq 9 (.var 3)) (.cons (.ite (.cmp .ne (.call 10 false [] (.cons (.var 9) (.cons (.var 6) .nil))) (.int 0)) (.cons (.ret (.bl false)) .nil) .nil) (.cons (.fgt [9]) .nil))) (.cons (.for_ (.rng 10 (.cons (.bin .add (.var 4) (.int 1)) (.cons (.var 2) .nil))) (.cons (.ite (.cmp .ne (.idx (.var 6) (.var 10)) (.int 0)) (.cons (.ret (.bl false)) .nil) .nil) (.cons (.fgt [10]) .nil))) (.cons (.ret (.bop true (.cmp .eq (.var 7) (.int 1)) (.cons (.cmp .gt (.idx (.var 6) (.var 4)) (.int 0)) .nil))) .nil)))))))))))))) }
/-- _law_hidden -/
def d16 : Def := { name := "_law_hidden", ps := ["script", "place", "great"], N := ["script", "place", "great", "drawn", "fine", "line", "shared", "number", "j"], rd := 0, body := (.cons (.asg 3 none (.call 9 false [] (.cons (.call 8 false [] (.cons (.var 0) (.cons (.int 4) .nil))) (.cons (.bin .mul (.lst 0 (.cons (.int 19) .nil)) (.int 60)) .nil)))) (.cons (.asg 4 none (.call 9 false [] (.cons (.call 8 false [] (.cons (.var 0) (.cons (.int 5) .nil))) (.cons (.bin .mul (.lst 0 (.cons (.bin .pow (.int 10) (.int 25)) .nil)) (.int 8)) .nil)))) (.cons (.asg 5 (some 1) (.bin .add (.lc 0 (.rng 8 (.cons (.var 1) .nil)) .nil (.bin .sub (.idx (.var 3) (.var 8)) (.int 9))) (.lst 0 (.cons (.bin .add (.int 1) (.idx (.var 3) (.int 59))) .nil)))) (.cons (.ite (.var 2) (.cons (.sto 5 .nil (.var 1) (.bin .mul (.idx (.var 5) (.var 1)) (.bin .add (.int 1) (.idx (.var 4) (.int 7))))) (.cons (.for_ (.rng 8 (.cons (.blt .min (.cons (.var 1) (.cons (.int 7) .nil))) .nil)) (.cons (.sto 5 .nil (.var 8) (.bin .mul (.idx (.var 5) (.var 8)) (.bin .add (.int 1) (.idx (.var 4) (.var 8))))) (.cons (.fgt [8]) .nil))) .nil)) .nil) (.cons (.fgt [8]) (.cons (.frz 5) (.cons (.asg 6 none (.int 0)) (.cons (.for_ (.seq 7 (.var 5)) (.cons (.asg 6 none (.call 11 false [] (.cons (.var 6) (.cons (.var 7) .nil)))) (.cons (.fgt [7]) .nil))) (.cons (.ret (.lc 0 (.seq 7 (.var 5)) .nil (.bin .fdiv (.var 7) (.var 6)))) .nil))))))))) }
/-- _law_planted -/
def d17 : Def := { name := "_law_planted", ps := ["script", "hidden", "span"], N := ["script", "hidden", "span", "tails", "place", "lines", "j", "line", "k"], rd := 1, body := (.cons (.asg 3 none (.call 9 false [] (.cons (.call 8 false [] (.cons (.var 0) (.cons (.int 6) .nil))) (.cons (.bin .mul (.lst 0 (.cons (.int 7) .nil)) (.int 60)) .nil)))) (.cons (.asg 4 none (.bin .sub (.blt .len (.cons (.var 1) .nil)) (.int 1))) (.cons (.asg 5 (some 1) (.lst 0 .nil)) (.cons (.for_ (.rng 6 (.cons (.var 4) .nil)) (.cons (.asg 7 (some 1) (.lc 0 (.rng 8 (.cons (.var 2) .nil)) .nil (.int 0))) (.cons (.sto 7 .nil (.var 6) (.idx (.var 1) (.var 4))) (.cons (.sto 7 .nil (.var 4) (.neg (.idx (.var 1) (.var 6)))) (.cons (.for_ (.rng 8 (.cons (.bin .add (.var 4) (.int 1)) (.cons (.var 2) .nil))) (.cons (.sto 7 .nil (.var 8) (.bin .sub (.idx (.var 3) (.bin .mod (.blt .int (.cons (.bin .add (.bin .mul (.int 5) (.var 6)) (.bin .mul (.int 11) (.var 8))) .nil)) (.int 60))) (.int 3))) (.cons (.fgt [8]) .nil))) (.cons (.frz 7) (.cons (.app 5 .nil (.var 7)) (.cons (.fgt [6, 7, 8]) .nil)))))))) (.cons (.retV 5) .nil))))) }
/-- _law_full -/
def d18 : Def := { name := "_law_full", ps := ["script", "span"], N := ["script", "span", "drawn", "lines", "j", "line", "k"], rd := 1, body := (.cons (.asg 2 none (.call 9 false [] (.cons (.call 8 false [] (.cons (.var 0) (.cons (.int 4) .nil))) (.cons (.bin .mul (.lst 0 (.cons (.int 19) .nil)) (.int 60)) .nil)))) (.cons (.asg 3 (some 1) (.lst 0 .nil)) (.cons (.for_ (.rng 4 (.cons (.var 1) .nil)) (.cons (.asg 5 (some 1) (.lc 0 (.rng 6 (.cons (.var 1) .nil)) .nil (.int 0))) (.cons (.sto 5 .nil (.var 4) (.bin .sub (.idx (.var 2) (.var 4)) (.int 9))) (.cons (.ite (.cmp .eq (.idx (.var 5) (.var 4)) (.int 0)) (.cons (.sto 5 .nil (.var 4) (.bin .pow (.int 10) (.int 12))) .nil) .nil) (.cons (.frz 5) (.cons (.app 3 .nil (.var 5)) (.cons (.fgt [4, 5]) .nil))))))) (.cons (.retV 3) .nil)))) }
/-- _law_mixed -/
def d19 : Def := { name := "_law_mixed", ps := ["script", "lines"], N := ["script", "lines", "ahead", "back", "menu", "j", "at"], rd := 0, body := (.cons (.asg 2 none (.call 9 false [] (.cons (.call 8 false [] (.cons (.var 0) (.cons (.int 7) .nil))) (.cons (.bin .mul (.lst 0 (.cons (.int 5) .nil)) (.int 60)) .nil)))) (.cons (.asg 3 none (.call 9 false [] (.cons (.call 8 false [] (.cons (.var 0) (.cons (.int 8) .nil))) (.cons (.bin .mul (.lst 0 (.cons (.int 5) .nil)) (.int 60)) .nil)))) (.cons (.asg 4 none (.lst 0 (.cons (.int 0) (.cons (.int 0) (.cons (.int 1) (.cons (.neg (.int 1)) (.cons (.int 3) .nil))))))) (.cons (.for_ (.rng 5 (.cons (.bin .sub (.blt .len (.cons (.var 1) .nil)) (.int 1)) .nil)) (.cons (.sto 1 .nil (.var 5) (.call 13 false [] (.cons (.idx (.var 1) (.var 5)) (.cons (.idx (.var 1) (.bin .add (.var 5) (.int 1))) (.cons (.idx (.var 4) (.idx (.var 2) (.var 5))) .nil))))) (.cons (.fgt [5]) .nil))) (.cons (.for_ (.rng 5 (.cons (.bin .sub (.blt .len (.cons (.var 1) .nil)) (.int 1)) .nil)) (.cons (.asg 6 none (.bin .sub (.bin .sub (.blt .len (.cons (.var 1) .nil)) (.int 1)) (.var 5))) (.cons (.sto 1 .nil (.var 6) (.call 13 false [] (.cons (.idx (.var 1) (.var 6)) (.cons (.idx (.var 1) (.bin .sub (.var 6) (.int 1))) (.cons (.idx (.var 4) (.idx (.var 3) (.var 6))) .nil))))) (.cons (.fgt [5, 6]) .nil)))) (.cons (.ret (.var 1)) .nil)))))), own := some (1, 1) }
/-- _law_more -/
def d20 : Def := { name := "_law_more", ps := ["script", "lines", "span", "place"], N := ["script", "lines", "span", "place", "drawn", "more", "j", "kind", "line", "start", "at", "first", "k", "number"], rd := 0, body := (.cons (.asg 4 none (.call 9 false [] (.cons (.call 8 false [] (.cons (.var 0) (.cons (.int 9) .nil))) (.cons (.bin .add (.bin .add (.lst 0 (.cons (.int 4) .nil)) (.bin .mul (.lst 0 (.cons (.int 5) (.cons (.int 60) (.cons (.int 60) (.cons (.int 7) .nil))))) (.int 3))) (.lst 0 (.cons (.int 60) (.cons (.int 2) (.cons (.int 60) (.cons (.int 3) .nil)))))) .nil)))) (.cons (.asg 5 (some 1) (.blt .list (.cons (.var 1) .nil))) (.cons (.for_ (.rng 6 (.cons (.idx (.var 4) (.int 0)) .nil)) (.cons (.asg 7 none (.idx (.var 4) (.bin .add (.int 1) (.bin .mul (.int 4) (.var 6))))) (.cons (.asg 8 (some 1) (.lc 0 (.rng 12 (.cons (.var 2) .nil)) .nil (.int 0))) (.cons (.ite (.bop true (.cmp .lt (.var 7) (.int 3)) (.cons (.cmp .gt (.blt .len (.cons (.var 1) .nil)) (.int 0)) .nil)) (.cons (.asg 11 none (.idx (.var 1) (.bin .mod (.idx (.var 4) (.bin .add (.int 2) (.bin .mul (.int 4) (.var 6)))) (.blt .len (.cons (.var 1) .nil))))) (.cons (.asg 8 (some 1) (.call 13 false [] (.cons (.var 11) (.cons (.idx (.var 1) (.bin .mod (.idx (.var 4) (.bin .add (.int 3) (.bin .mul (.int 4) (.var 6)))) (.blt .len (.cons (.var 1) .nil)))) (.cons (.bin .sub (.idx (.var 4) (.bin .add (.int 4) (.bin .mul (.int 4) (.var 6)))) (.int 3)) .nil))))) .nil)) (.cons (.ite (.cmp .eq (.var 7) (.int 3)) (.cons (.for_ (.rng 12 (.cons (.bin .add (.var 3) (.int 1)) (.cons (.var 2) .nil))) (.cons (.sto 8 .nil (.var 12) (.bin .sub (.bin .mod (.blt .int (.cons (.bin .add (.bin .mul (.var 12) (.bin .add (.int 1) (.idx (.var 4) (.bin .add (.int 4) (.bin .mul (.int 4) (.var 6)))))) (.idx (.var 4) (.bin .add (.int 2) (.bin .mul (.int 4) (.var 6))))) .nil)) (.int 11)) (.int 5))) (.cons (.fgt [12]) .nil))) .nil) .nil) (.cons (.fgt [12]) .nil))) (.cons (.fgt [11, 12]) (.cons (.frz 8) (.cons (.app 5 .nil (.var 8)) (.cons (.fgt [6, 7, 8, 11, 12]) .nil)))))))) (.cons (.ite (.cmp .gt (.blt .len (.cons (.var 5) .nil)) (.int 0)) (.cons (.asg 9 none (.bin .mod (.idx (.var 4) (.int 13)) (.blt .len (.cons (.var 5) .nil)))) (.cons (.asg 5 (some 1) (.bin .add (.slc (.var 5) (.some (.var 9)) .none) (.slc (.var 5) .none (.some (.var 9))))) (.cons (.asg 10 none (.bin .mod (.idx (.var 4) (.int 15)) (.blt .len (.cons (.var 5) .nil)))) (.cons (.sto 5 .nil (.var 10) (.lc 0 (.seq 13 (.idx (.var 5) (.var 10))) .nil (.bin .mul (.var 13) (.idx (.lst 0 (.cons (.int 1) (.cons (.neg (.int 7)) (.cons (.bin .add (.bin .pow (.int 10) (.int 20)) (.int 39)) .nil)))) (.idx (.var 4) (.int 16)))))) .nil)))) .nil) (.cons (.fgt [9, 10]) (.cons (.frz 5) (.cons (.ite (.cmp .eq (.idx (.var 4) (.int 14)) (.int 1)) (.cons (.asg 5 (some 1) (.lc 0 (.rng 6 (.cons (.blt .len (.cons (.var 5) .nil)) .nil)) .nil (.idx (.var 5) (.bin .sub (.bin .sub (.blt .len (.cons (.var 5) .nil)) (.int 1)) (.var 6))))) .nil) .nil) (.cons (.ret (.var 5)) .nil)))))))) }
/-- _law_planted_right -/
def d21 : Def := { name := "_law_planted_right", ps := ["script"], N := ["script", "shape", "span", "place", "hidden", "lines", "due", "given", "found", "k", "line"], rd := 0, body := (.cons (.asg 1 none (.call 9 false [] (.cons (.call 8 false [] (.cons (.var 0) (.cons (.int 0) .nil))) (.cons (.lst 0 (.cons (.int 10) (.cons (.int 6) (.cons (.int 60) (.cons (.int 2) (.cons (.int 2) (.cons (.int 7) .nil))))))) .nil)))) (.cons (.asg 2 none (.idx (.lst 0 (.cons (.bin .add (.int 1) (.idx (.var 1) (.int 5))) (.cons (.int 2) (.cons (.int 3) (.cons (.int 4) (.cons (.int 5) (.cons (.int 7) (.cons (.int 9) (.cons (.int 16) (.cons (.int 30) (.cons (.int 60) .nil))))))))))) (.idx (.var 1) (.int 0)))) (.cons (.asg 3 none (.idx (.lst 0 (.cons (.bin .mod (.idx (.var 1) (.int 2)) (.var 2)) (.cons (.bin .sub (.var 2) (.int 1)) (.cons (.int 0) .nil)))) (.blt .max (.cons (.int 0) (.cons (.bin .sub (.idx (.var 1) (.int 1)) (.int 3)) .nil))))) (.cons (.asg 4 none (.call 16 false [] (.cons (.var 0) (.cons (.var 3) (.cons (.cmp .eq (.idx (.var 1) (.int 3)) (.int 1)) .nil))))) (.cons (.asg 5 none (.call 20 false [] (.cons (.var 0) (.cons (.callO 19 1 1 (.cons (.var 0) (.cons (.call 17 false [] (.cons (.var 0) (.cons (.var 4) (.cons (.var 2) .nil)))) .nil))) (.cons (.var 2) (.cons (.var 3) .nil)))))) (.cons (.asg 6 none (.bin .add (.var 4) (.lc 0 (.rng 9 (.cons (.bin .add (.var 3) (.int 1)) (.cons (.var 2) .nil))) .nil (.int 0)))) (.cons (.asg 7 none (.lc 0 (.seq 10 (.var 5)) .nil (.idx (.lst 0 (.cons (.blt .list (.cons (.var 10) .nil)) (.cons (.blt .tuple (.cons (.var 10) .nil)) .nil))) (.idx (.var 1) (.int 4))))) (.cons (.asg 8 none (.callK 6 false [1, 0] .nil (.cons (.var 2) (.cons (.blt .tuple (.cons (.var 7) .nil)) .nil)))) (.cons (.ite (.bop false (.cmp .ne (.lc 0 (.seq 10 (.var 7)) .nil (.blt .list (.cons (.var 10) .nil))) (.var 5)) (.cons (.not (.isin (.var 8) [.kTuple])) (.cons (.cmp .ne (.blt .len (.cons (.var 8) .nil)) (.var 2)) .nil))) (.cons (.ret (.bl false)) .nil) .nil) (.cons (.for_ (.rng 9 (.cons (.var 2) .nil)) (.cons (.ite (.bop false (.not (.call 7 false [] (.cons (.idx (.var 8) (.var 9)) .nil))) (.cons (.cmp .ne (.idx (.var 8) (.var 9)) (.idx (.var 6) (.var 9))) .nil)) (.cons (.ret (.bl false)) .nil) .nil) (.cons (.fgt [9]) .nil))) (.cons (.ret (.bl true)) .nil))))))))))) }
/-- _law_full_right -/
def d22 : Def := { name := "_law_full_right", ps := ["script"], N := ["script", "shape", "span", "lines", "given", "line"], rd := 0, body := (.cons (.asg 1 none (.call 9 false [] (.cons (.call 8 false [] (.cons (.var 0) (.cons (.int 10) .nil))) (.cons (.lst 0 (.cons (.int 10) (.cons (.int 2) .nil))) .nil)))) (.cons (.asg 2 none (.idx (.lst 0 (.cons (.int 1) (.cons (.int 2) (.cons (.int 3) (.cons (.int 4) (.cons (.int 5) (.cons (.int 7) (.cons (.int 9) (.cons (.int 14) (.cons (.int 22) (.cons (.int 60) .nil))))))))))) (.idx (.var 1) (.int 0)))) (.cons (.asg 3 none (.call 20 false [] (.cons (.var 0) (.cons (.callO 19 1 1 (.cons (.var 0) (.cons (.call 18 false [] (.cons (.var 0) (.cons (.var 2) .nil))) .nil))) (.cons (.var 2) (.cons (.var 2) .nil)))))) (.cons (.asg 4 none (.lc 0 (.seq 5 (.var 3)) .nil (.idx (.lst 0 (.cons (.blt .tuple (.cons (.var 5) .nil)) (.cons (.blt .list (.cons (.var 5) .nil)) .nil))) (.idx (.var 1) (.int 1))))) (.cons (.ret (.bop true (.cmp .isN (.call 6 false [] (.cons (.var 4) (.cons (.var 2) .nil))) (.non)) (.cons (.cmp .eq (.lc 0 (.seq 5 (.var 4)) .nil (.blt .list (.cons (.var 5) .nil))) (.var 3)) .nil))) .nil))))) }
/-- law -/
def d23 : Def := { name := "law", ps := ["script"], N := ["script"], rd := 0, body := (.cons (.ret (.bop true (.call 15 false [] (.cons (.var 0) .nil)) (.cons (.call 21 false [] (.cons (.var 0) .nil)) (.cons (.call 22 false [] (.cons (.var 0) .nil)) .nil)))) .nil) }
def tbl : List Def := [d0, d1, d2, d3, d4, d5, d6, d7, d8, d9, d10, d11, d12, d13, d14, d15, d16, d17, d18, d19, d20, d21, d22, d23]
def clss : List (Str × List Str) := []
def cfg : Cfg := ⟨tbl, true, [⟨6, 0, ["width", "rows"], [1, 0]⟩], clss⟩
theorem rd0 : rdT tbl 0 = 0 := rfl
theorem rd1 : rdT tbl 1 = 0 := rfl
theorem rd2 : rdT tbl 2 = 0 := rfl
theorem rd3 : rdT tbl 3 = 0 := rfl
theorem rd4 : rdT tbl 4 = 1 := rfl
theorem rd5 : rdT tbl 5 = 0 := rfl
theorem rd6 : rdT tbl 6 = 0 := rfl
theorem rd7 : rdT tbl 7 = 0 := rfl
theorem rd8 : rdT tbl 8 = 0 := rfl
theorem rd9 : rdT tbl 9 = 0 := rfl
theorem rd10 : rdT tbl 10 = 0 := rfl
theorem rd11 : rdT tbl 11 = 0 := rfl
theorem rd12 : rdT tbl 12 = 0 := rfl
theorem rd13 : rdT tbl 13 = 1 := rfl
theorem rd14 : rdT tbl 14 = 0 := rfl
theorem rd15 : rdT tbl 15 = 0 := rfl
theorem rd16 : rdT tbl 16 = 0 := rfl
theorem rd17 : rdT tbl 17 = 1 := rfl
theorem rd18 : rdT tbl 18 = 1 := rfl
theorem rd19 : rdT tbl 19 = 0 := rfl
theorem rd20 : rdT tbl 20 = 0 := rfl
theorem rd21 : rdT tbl 21 = 0 := rfl
theorem rd22 : rdT tbl 22 = 0 := rfl
theorem rd23 : rdT tbl 23 = 0 := rfl
end K08

namespace K08
open PySem PySem.Spec PyProof.Rows L2 PT
local macro_rules | `(tactic| walk_at "wp") => `(tactic| simp only [↓PT.q_callK, PT.q_pk1, PT.q_pk10, PT.q_pk01, PT.wpE, PT.wpEs, PT.wpO, PT.wpB, PT.wpC, PT.wpI, PT.wpIS, PT.q_var, PT.q_vsh, PT.q_vow, PT.q_vbr, PT.q_val, PT.Env.get, PT.takes, PT.taksO, PT.taksF, PT.takF, PT.entO, PT.keeps, PT.bltT, PT.flatIf, PT.bwT, PT.wpFrz, PT.wpRetV, PT.wpL, PT.lvT, PT.nxtP, PT.wpMv, PT.Env.store, PT.Env.put, PT.Env.puts, PT.Env.wipe, PT.Env.mut, PT.Sl.unroot, PT.Sl.muted, PT.q_og0, PT.q_ogS, q_seq, q_idx, q_len, q_lst, q_tup, q_isin, q_add, q_sub, q_mul, q_fdiv, q_fdivN, q_fdivW, q_mod, q_pow, q_addL, q_mulL, q_addT, q_lt, q_le, q_gt, q_ge, q_eq, q_ne, q_eqLL, q_neLL, q_eqTT, q_neTT, q_eqLT, q_neLT, q_eqTL, q_neTL, q_eqB, q_neB, q_isN, q_notN, q_in_L, q_in_T, q_notInL, q_notInT, q_idxL, q_idxT, q_idxS, q_slc, q_slcT, q_fst, q_end, q_neg, q_tru, q_asI, q_asIs0, q_asIs1, q_lenL, q_lenT, q_lenS, q_abs, q_maxI, q_minI, q_maxL, q_maxT, q_minL, q_minT, q_sumL, q_sumT, q_all, q_any, q_intI, q_intB, q_tupL, q_tupT, q_lstL, q_lstT, q_lstS, q_rng1, q_rng2, q_seqL, q_seqT, q_seqS, q_gcd, q_isiI, q_isiB, q_isiL, q_isiT, q_isiN, q_isiS, q_unp, q_take0, q_takeF, q_takeI, q_keep0, q_keepF, q_sl0, q_slF, q_slB, q_it0, q_itF, q_itB, q_sh0, q_sh1, q_sh2, q_shF, q_frz0, q_frzF, q_asgN, q_asgF, q_rd0, q_rdF, PT.q_put0, PT.It.slots, List.map_cons, List.map_nil, List.append_nil, List.nil_append, List.cons_append, List.length_cons, List.length_nil, List.length_map, List.zip_cons_cons, List.zip_nil_left, PT.rgL_len, PT.fL_len, Int.sub_zero, List.any_cons, List.any_nil, PT.kdIs, Bool.or_false, Bool.false_or, Bool.or_true, Bool.and_true, Bool.true_and, Bool.not_true, Bool.not_false, Bool.not_eq_true', decide_eq_true_eq, decide_eq_false_iff_not, Bool.false_eq_true, Bool.true_eq_false, reduceCtorEq, if_true, if_false, ite_not, true_and, and_true, eq_self, len_iL, decide_true, decide_false, Nat.reduceAdd, Nat.reduceSub, reduceIte, Nat.reduceLT, Nat.reduceEqDiff, ne_eq, not_false_eq_true, not_true_eq_false, PT.T.isNon, true_or, false_or, Nat.le_refl, Nat.lt_irrefl, Nat.zero_lt_succ, Nat.not_lt_zero, PT.T.flat, List.all_cons, List.all_nil, List.replicate, PT.q_at0, Option.some.injEq, T.lst.injEq, exists_and_left, exists_eq_left, exists_eq_left', rd0, rd1, rd2, rd3, rd4, rd5, rd6, rd7, rd8, rd9, rd10, rd11, rd12, rd13, rd14, rd15, rd16, rd17, rd18, rd19, rd20, rd21, rd22, rd23])
local macro_rules | `(tactic| walk_at "st") => `(tactic| with_reducible first | refine st_asg ?_ | refine st_own ?_ | refine st_frz ?_ | refine st_fgt ?_ | refine st_fst ?_ | refine st_ret ?_ | refine st_retV ?_ | refine st_app ?_ | refine st_sto ?_ | refine st_appMv ?_ | refine st_ali ?_ | refine st_unp ?_ | refine st_forD ?_ | refine st_retN ?_ | refine st_brk ?_ | refine st_cnt ?_ | refine st_pas ?_ | refine st_ex ?_ | refine st_ite ?_ | refine st_for ?_ | refine st_nil ?_)
local macro_rules | `(tactic| walk_at "ob") => `(tactic| first | exact trivial | assumption | (with_reducible rfl) | omega | decide | exact mul_okL (by omega) (by omega) | exact mul_okR (by omega) (by omega) | exact mul_ok (by assumption) (by assumption) (by decide) | (unfold sizeLine; omega))
local macro_rules | `(tactic| walk_at "cj") => `(tactic| with_reducible first | refine And.intro (by walk_at "ob") ?_ | refine x_l0 ?_ | refine x_l1 ?_ | refine x_l2 ?_ | refine x_l3 ?_ | refine x_fL (by omega) (by omega) ?_ | refine x_rg (by omega) (by omega) ?_ | refine x_lastI (by omega) ?_ | refine x_last (by omega) ?_ | refine x_idx (by omega) (by omega) ?_ | refine x_ix (by omega) (by omega) ?_)
local macro_rules | `(tactic| walk_at "sn") => `(tactic| with_reducible first | refine st_asg ?_ | refine st_own ?_ | refine st_frz ?_ | refine st_fgt ?_ | refine st_fst ?_ | refine st_ret ?_ | refine st_retV ?_ | refine st_app ?_ | refine st_sto ?_ | refine st_appMv ?_ | refine st_ali ?_ | refine st_unp ?_ | refine st_forD ?_ | refine st_retN ?_ | refine st_brk ?_ | refine st_cnt ?_ | refine st_pas ?_ | refine st_ex ?_ | refine st_for ?_ | refine st_nil ?_)
local macro_rules | `(tactic| walk_at "gn") => `(tactic| (repeat (first | walk_at "cj" | walk_at "sn" | walk_at "wp")))
local macro_rules | `(tactic| walk_at "go") => `(tactic| (repeat (first | walk_at "cj" | walk_at "st" | walk_at "wp")))

/-! ### the program's rows -/
theorem c_cell {n : Nat} {ns : List Int} {k : Int} {Q : T → Prop} (h0 : 0 ≤ k) (h1 : k < 2 ^ 32) (h : Q (.int (cellF ns k))) : Cl (gam tbl (n + 1) 8 [.scr ns, .int k] Q) := ⟨cell_spec h0 h1 h, trivial⟩
theorem c_digE {n : Nat} {cell : Int} {ts : List T} {sizes : List Int} {Q : T → Prop} (e : ts = iL sizes) (hs : ∀ s ∈ sizes, 0 < s ∧ s.natAbs.log2 < 9000) (hl : sizes.length ≤ 1000) (h : ∀ ds, Dg sizes ds → Q (.lst (iL ds))) : Cl (gam tbl (n + 1) 9 [.int cell, .lst ts] Q) := by
  subst e
  exact ⟨dig_spec hs hl (h _ (digF_Dg fun s x => (hs s x).1)), trivial⟩
theorem c_dot {n : Nat} {a b : Bool} {xs ys : List Int} {Q : T → Prop} (hl : xs.length = ys.length) (hz : xs.length ≤ 1000000) (hm : ∀ x ∈ xs, ∀ y ∈ ys, IntMulOk x y) (h : Q (.int (dotF xs ys))) : Cl (gam tbl (n + 1) 10 [sq a (iL xs), sq b (iL ys)] Q) := ⟨dot_spec hl hz hm h, trivial⟩
theorem c_lgcd {n : Nat} {x y : Int} {Q : T → Prop} (h : Q (.int (gcdI x y))) : Cl (gam tbl (n + 1) 11 [.int x, .int y] Q) := ⟨lgcd_spec h, trivial⟩
theorem c_cd {n : Nat} {a : Bool} {l : List Int} {Q : T → Prop} (h : Q (.int (gcdL l))) : Cl (gam tbl (n + 1) 0 [sq a (iL l)] Q) := ⟨cd_spec h, trivial⟩
abbrev cN (W : Int → Int → Int) : Nat → Nat → Int := fun i j => W i j
abbrev cV (f : Int → Int) : Nat → Int := fun j => f j
theorem gcdL_fL (f : Int → Int) : ∀ n : Nat, gcdL (fL n f) = KN.gcdN n (cV f)
  | 0 => rfl
  | n + 1 => by
    rw [show ((n + 1 : Nat) : Int) = (n : Int) + 1 by omega, fL_snoc f (by omega), gcdL_snoc, gcdL_fL f n]
    rfl
/-- a division that the long one serves -/
abbrev DivS (x y : Int) : Prop := Builtin.divisionGoesByPylong x y = false
theorem div_small {b : Nat} {x y : Int} (h : Sz b x) (hb : b ≤ 13500) : DivS x y := by
  unfold DivS Builtin.divisionGoesByPylong
  dsimp only
  by_cases hy : (if (y == 0) = true then 0 else y.natAbs.log2 / 30 + 1) > 300
  · have hx : ¬ (if (x == 0) = true then 0 else x.natAbs.log2 / 30 + 1) > (if (y == 0) = true then 0 else y.natAbs.log2 / 30 + 1) + 150 := by
      by_cases e : (x == 0) = true
      · rw [if_pos e]; omega
      · rw [if_neg e]
        have x0 : x.natAbs ≠ 0 := fun z => e (by rw [Int.natAbs_eq_zero.mp z]; rfl)
        have : x.natAbs.log2 < 13500 := Nat.lt_of_lt_of_le ((Nat.log2_lt x0).mpr h) hb
        omega
    rw [decide_eq_false hx, Bool.and_false]
  · rw [decide_eq_false hy, Bool.false_and]
theorem div_low {b : Nat} {x y : Int} (h : Sz b y) (hb : b ≤ 9000) : DivS x y := by
  refine PyProof.noPylong_of_log2 ?_
  by_cases e : y.natAbs = 0
  · rw [e]; decide
  · exact Nat.lt_of_lt_of_le ((Nat.log2_lt e).mpr h) hb
theorem div_mul {q y : Int} (h : Sz 4000 q) : DivS (y * q) y := by
  unfold DivS Builtin.divisionGoesByPylong
  dsimp only
  have hx : ¬ (if (y * q == 0) = true then 0 else (y * q).natAbs.log2 / 30 + 1) > (if (y == 0) = true then 0 else y.natAbs.log2 / 30 + 1) + 150 := by
    by_cases e : (y * q == 0) = true
    · rw [if_pos e]; omega
    · rw [if_neg e]
      have x0 : (y * q).natAbs ≠ 0 := fun z => e (by rw [Int.natAbs_eq_zero.mp z]; rfl)
      have y0 : y ≠ 0 := fun z => x0 (by rw [z, Int.zero_mul]; rfl)
      rw [if_neg (by simpa using y0)]
      have y1 : y.natAbs ≠ 0 := by omega
      have h1 : y.natAbs < 2 ^ (y.natAbs.log2 + 1) := (Nat.log2_lt y1).mp (by omega)
      have h2 : (y * q).natAbs < 2 ^ (y.natAbs.log2 + 1 + 4000) := by
        rw [Int.natAbs_mul, Nat.pow_add]
        exact Nat.mul_lt_mul'' h1 h
      have := (Nat.log2_lt x0).mpr h2
      omega
  rw [decide_eq_false hx, Bool.and_false]
/-! ### lowered_row -/
def lowI (n : Int) (f : Int → Int) : Int → Int := fun j => if gcdL (fL n f) < 2 then f j else f j / gcdL (fL n f)
theorem lowI_cV (n : Nat) (f : Int → Int) : cV (lowI n f) = KN.low n (cV f) := by
  funext j
  unfold cV lowI KN.low
  rw [gcdL_fL]
  split <;> rfl
theorem c_low {k : Nat} {a : Bool} {n : Int} {f : Int → Int} {Q : T → Prop} (hn : 0 ≤ n ∧ n ≤ 100000) (hd : ∀ j, 0 ≤ j → j < n → DivS (f j) (gcdL (fL n f))) (h : Q (.tup (iL (fL n (lowI n f))))) : Cl (gam tbl (k + 2) 1 [sq a (iL (fL n f))] Q) := by
  refine enter rfl rfl rfl ?_
  simp only [d1, entry]
  walk_at "gn"
  refine c_cd ?_
  walk_at "gn"
  refine st_ite ?_
  walk_at "gn"
  refine iteE (fun h1 => ?_) fun h1 => ?_
  · walk_at "gn"
    have e : fL n (lowI n f) = fL n f := fL_congr fun j _ _ => by unfold lowI; rw [if_pos h1]
    rw [← e]
    exact h
  · walk_at "gn"
    refine lc_fL (fun j => .int (lowI n f j)) (by omega) (fun j j0 j1 acc K ha hK => ?_) ?_
    · walk_at "gn"
      refine ⟨⟨by omega, hd j j0 j1⟩, ?_⟩
      refine ⟨ha, ?_⟩
      rw [Int.fdiv_eq_ediv_of_nonneg _ (by omega)]
      have : lowI n f j = f j / gcdL (fL n f) := by unfold lowI; rw [if_neg h1]
      rw [← this]
      exact hK
    rw [fL_map]
    walk_at "gn"
    exact h
/-! ### common_multiple -/
structure Multi (l : List Int) (E : Nat) (b : Int) : Prop where
  pos : 0 < b
  all : ∀ x ∈ l, x ∣ b
  sz : Sz (l.length * E + 1) b
theorem multi_snoc {l : List Int} {E : Nat} {b x : Int} (h : Multi l E b) (hx : 0 < x) (sx : Sz E x) : gcdI b x ≠ 0 ∧ Multi (l ++ [x]) E (b.fdiv (gcdI b x) * x) := by
  have g0 : gcdI b x ≠ 0 := fun z => by
    have := gcdI_dvd_r b x
    rw [z] at this
    have := Int.zero_dvd.mp this
    omega
  have gp : 0 < gcdI b x := by have := gcdI_nonneg b x; omega
  have e : b.fdiv (gcdI b x) = b / gcdI b x := Int.fdiv_eq_ediv_of_nonneg _ (by omega)
  have eb : gcdI b x * (b / gcdI b x) = b := Int.mul_ediv_cancel' (gcdI_dvd_l b x)
  have bp : 0 < b / gcdI b x := by
    refine Classical.byContradiction fun z => ?_
    have : gcdI b x * (b / gcdI b x) ≤ 0 := Int.mul_nonpos_of_nonneg_of_nonpos (by omega) (by omega)
    have := h.pos
    omega
  refine ⟨g0, by rw [e]; exact Int.mul_pos bp hx, fun y hy => ?_, ?_⟩
  · rw [e]
    rcases List.mem_append.mp hy with z | z
    · obtain ⟨c, hc⟩ := gcdI_dvd_r b x
      have : b ∣ b / gcdI b x * x := ⟨c, by
        have e2 : b / gcdI b x * x = b / gcdI b x * (gcdI b x * c) := congrArg (b / gcdI b x * ·) hc
        rw [e2, ← Int.mul_assoc, Int.mul_comm (b / gcdI b x), eb]⟩
      exact Int.dvd_trans (h.all y z) this
    · rw [List.mem_singleton.mp z]
      exact Int.dvd_mul_left _ _
  · rw [e, List.length_append, List.length_singleton]
    have s1 : Sz (l.length * E + 1) (b / gcdI b x) := by
      refine Nat.lt_of_le_of_lt ?_ h.sz
      have := congrArg Int.natAbs eb
      rw [Int.natAbs_mul] at this
      rw [← this]
      exact Nat.le_mul_of_pos_left _ (by omega)
    have := s1.mul sx
    rw [show (l.length + 1) * E + 1 = l.length * E + 1 + E by rw [Nat.add_mul]; omega]
    exact this
theorem c_cm {k E : Nat} {l : List Int} {Q : T → Prop} (hE : E ≤ 9000) (hl : l.length ≤ 100) (hp : ∀ x ∈ l, 0 < x ∧ Sz E x) (h : ∀ b, Multi l E b → Q (.int b)) : Cl (gam tbl (k + 1) 2 [.lst (iL l)] Q) := by
  refine enter rfl rfl rfl ?_
  simp only [d2, entry]
  walk_at "gn"
  refine forL_of (fun q env => ∃ b, Multi q E b ∧ env = [.sh (.lst (iL l)), .sh (.int b), .em]) l _ ⟨1, ⟨by decide, (fun x hx => by cases hx), by show (1 : Int).natAbs < 2 ^ (0 * E + 1); simp⟩, rfl⟩ ?_ ?_
  · rintro q x r env K eq ⟨b, hb, rfl⟩ hK
    have hx := hp x (by rw [eq]; simp)
    have hq : q.length + 1 + r.length = l.length := by rw [eq]; simp; omega
    obtain ⟨g0, hb2⟩ := multi_snoc hb hx.1 hx.2
    have sg : Sz E (gcdI b x) := by
      refine Nat.lt_of_le_of_lt ?_ hx.2
      exact Nat.le_of_dvd (by omega) (Int.natAbs_dvd_natAbs.mpr (gcdI_dvd_r b x))
    walk_at "gn"
    refine ⟨⟨g0, div_low sg hE⟩, ?_⟩
    refine ⟨mul_ok (b := (q.length * E + 1)) (c := E) ?_ hx.2 ?_, ?_⟩
    · have e : b.fdiv (gcdI b x) = b / gcdI b x := Int.fdiv_eq_ediv_of_nonneg _ (gcdI_nonneg _ _)
      rw [e]
      refine Nat.lt_of_le_of_lt ?_ hb.sz
      have := congrArg Int.natAbs (Int.mul_ediv_cancel' (gcdI_dvd_l b x))
      rw [Int.natAbs_mul] at this
      rw [← this]
      exact Nat.le_mul_of_pos_left _ (by omega)
    · have : q.length * E ≤ 100 * 9000 := Nat.mul_le_mul (by omega) hE
      omega
    walk_at "gn"
    exact hK _ ⟨_, hb2, rfl⟩
  · rintro env ⟨b, hb, rfl⟩
    walk_at "gn"
    exact h b hb
end K08

namespace K08
open PySem PySem.Spec PyProof.Rows L2 PT
local macro_rules | `(tactic| walk_at "wp") => `(tactic| simp only [↓PT.q_callK, PT.q_pk1, PT.q_pk10, PT.q_pk01, PT.wpE, PT.wpEs, PT.wpO, PT.wpB, PT.wpC, PT.wpI, PT.wpIS, PT.q_var, PT.q_vsh, PT.q_vow, PT.q_vbr, PT.q_val, PT.Env.get, PT.takes, PT.taksO, PT.taksF, PT.takF, PT.entO, PT.keeps, PT.bltT, PT.flatIf, PT.bwT, PT.wpFrz, PT.wpRetV, PT.wpL, PT.lvT, PT.nxtP, PT.wpMv, PT.Env.store, PT.Env.put, PT.Env.puts, PT.Env.wipe, PT.Env.mut, PT.Sl.unroot, PT.Sl.muted, PT.q_og0, PT.q_ogS, q_seq, q_idx, q_len, q_lst, q_tup, q_isin, q_add, q_sub, q_mul, q_fdiv, q_fdivN, q_fdivW, q_mod, q_pow, q_addL, q_mulL, q_addT, q_lt, q_le, q_gt, q_ge, q_eq, q_ne, q_eqLL, q_neLL, q_eqTT, q_neTT, q_eqLT, q_neLT, q_eqTL, q_neTL, q_eqB, q_neB, q_isN, q_notN, q_in_L, q_in_T, q_notInL, q_notInT, q_idxL, q_idxT, q_idxS, q_slc, q_slcT, q_fst, q_end, q_neg, q_tru, q_asI, q_asIs0, q_asIs1, q_lenL, q_lenT, q_lenS, q_abs, q_maxI, q_minI, q_maxL, q_maxT, q_minL, q_minT, q_sumL, q_sumT, q_all, q_any, q_intI, q_intB, q_tupL, q_tupT, q_lstL, q_lstT, q_lstS, q_rng1, q_rng2, q_seqL, q_seqT, q_seqS, q_gcd, q_isiI, q_isiB, q_isiL, q_isiT, q_isiN, q_isiS, q_unp, q_take0, q_takeF, q_takeI, q_keep0, q_keepF, q_sl0, q_slF, q_slB, q_it0, q_itF, q_itB, q_sh0, q_sh1, q_sh2, q_shF, q_frz0, q_frzF, q_asgN, q_asgF, q_rd0, q_rdF, PT.q_put0, PT.It.slots, List.map_cons, List.map_nil, List.append_nil, List.nil_append, List.cons_append, List.length_cons, List.length_nil, List.length_map, List.zip_cons_cons, List.zip_nil_left, PT.rgL_len, PT.fL_len, Int.sub_zero, List.any_cons, List.any_nil, PT.kdIs, Bool.or_false, Bool.false_or, Bool.or_true, Bool.and_true, Bool.true_and, Bool.not_true, Bool.not_false, Bool.not_eq_true', decide_eq_true_eq, decide_eq_false_iff_not, Bool.false_eq_true, Bool.true_eq_false, reduceCtorEq, if_true, if_false, ite_not, true_and, and_true, eq_self, len_iL, decide_true, decide_false, Nat.reduceAdd, Nat.reduceSub, reduceIte, Nat.reduceLT, Nat.reduceEqDiff, ne_eq, not_false_eq_true, not_true_eq_false, PT.T.isNon, true_or, false_or, Nat.le_refl, Nat.lt_irrefl, Nat.zero_lt_succ, Nat.not_lt_zero, PT.T.flat, List.all_cons, List.all_nil, List.replicate, PT.q_at0, Option.some.injEq, T.lst.injEq, exists_and_left, exists_eq_left, exists_eq_left', rd0, rd1, rd2, rd3, rd4, rd5, rd6, rd7, rd8, rd9, rd10, rd11, rd12, rd13, rd14, rd15, rd16, rd17, rd18, rd19, rd20, rd21, rd22, rd23])
local macro_rules | `(tactic| walk_at "st") => `(tactic| with_reducible first | refine st_asg ?_ | refine st_own ?_ | refine st_frz ?_ | refine st_fgt ?_ | refine st_fst ?_ | refine st_ret ?_ | refine st_retV ?_ | refine st_app ?_ | refine st_sto ?_ | refine st_appMv ?_ | refine st_ali ?_ | refine st_unp ?_ | refine st_forD ?_ | refine st_retN ?_ | refine st_brk ?_ | refine st_cnt ?_ | refine st_pas ?_ | refine st_ex ?_ | refine st_ite ?_ | refine st_for ?_ | refine st_nil ?_)
local macro_rules | `(tactic| walk_at "ob") => `(tactic| first | exact trivial | assumption | (with_reducible rfl) | omega | decide | exact mul_okL (by omega) (by omega) | exact mul_okR (by omega) (by omega) | exact mul_ok (by assumption) (by assumption) (by decide) | (unfold sizeLine; omega))
local macro_rules | `(tactic| walk_at "cj") => `(tactic| with_reducible first | refine And.intro (by walk_at "ob") ?_ | refine x_l0 ?_ | refine x_l1 ?_ | refine x_l2 ?_ | refine x_l3 ?_ | refine x_fL (by omega) (by omega) ?_ | refine x_rg (by omega) (by omega) ?_ | refine x_lastI (by omega) ?_ | refine x_last (by omega) ?_ | refine x_idx (by omega) (by omega) ?_ | refine x_ix (by omega) (by omega) ?_)
local macro_rules | `(tactic| walk_at "sn") => `(tactic| with_reducible first | refine st_asg ?_ | refine st_own ?_ | refine st_frz ?_ | refine st_fgt ?_ | refine st_fst ?_ | refine st_ret ?_ | refine st_retV ?_ | refine st_app ?_ | refine st_sto ?_ | refine st_appMv ?_ | refine st_ali ?_ | refine st_unp ?_ | refine st_forD ?_ | refine st_retN ?_ | refine st_brk ?_ | refine st_cnt ?_ | refine st_pas ?_ | refine st_ex ?_ | refine st_for ?_ | refine st_nil ?_)
local macro_rules | `(tactic| walk_at "gn") => `(tactic| (repeat (first | walk_at "cj" | walk_at "sn" | walk_at "wp")))
local macro_rules | `(tactic| walk_at "go") => `(tactic| (repeat (first | walk_at "cj" | walk_at "st" | walk_at "wp")))

theorem zip_fL {i j : Nat} {oa ob : Og} {n : Int} {f g : Int → Int} : zipS i j oa ob (iL (fL n f)) (iL (fL n g)) = (rgL 0 n).map fun x => [(i, slOf (.int (f x)) oa), (j, slOf (.int (g x)) ob)] := by
  rw [iL_fL, iL_fL, zipS_map]
abbrev rowsT (m n : Int) (W : Int → Int → Int) : List T := (rgL 0 m).map fun i => T.tup (iL (fL n (W i)))
def oT : Option Int → T
  | none => .non
  | some k => .int k
def FoundP (m c s : Int) (W : Int → Int → Int) : Option Int → Prop
  | none => ∀ i, s ≤ i → i < m → W i c = 0
  | some f => s ≤ f ∧ f < m ∧ W f c ≠ 0
theorem c_piv {k : Nat} {m n c s : Int} {W : Int → Int → Int} {Q : T → Prop} (hm : 0 ≤ m ∧ m ≤ 100) (hs : 0 ≤ s ∧ s ≤ m) (hc : 0 ≤ c ∧ c < n) (h : ∀ r, FoundP m c s W r → Q (oT r)) : Cl (gam tbl (k + 1) 3 [.lst (rowsT m n W), .int s, .int c] Q) := by
  refine enter rfl rfl rfl ?_
  simp only [d3, entry]
  walk_at "gn"
  rw [Int.toNat_of_nonneg hm.1]
  walk_at "gn"
  refine forL_range (fun j env => (∀ i, s ≤ i → i < j → W i c = 0) ∧ env = [.sh (.lst (rowsT m n W)), .sh (.int s), .sh (.int c), .em]) hs.2 _ ⟨fun i i0 i1 => absurd i0 (by omega), rfl⟩ ?_ ?_
  · rintro j env K j0 j1 ⟨hz, rfl⟩ hK
    have j2 : 0 ≤ j := by omega
    walk_at "gn"
    refine st_ite ?_
    walk_at "gn"
    refine iteE (fun h1 => ?_) fun h1 => ?_
    · walk_at "gn"
      refine hK _ ⟨fun i i0 i1 => ?_, rfl⟩
      by_cases e : i = j
      · subst e; exact h1
      · exact hz i i0 (by omega)
    · walk_at "gn"
      exact h (some j) ⟨j0, j1, h1⟩
  · rintro env ⟨hz, rfl⟩
    walk_at "gn"
    exact h none hz
/-! ### cleared_rows -/
def crsI (W : Int → Int → Int) (k i : Int) : Int → Int := fun j => W i j * W k k - W i k * W k j
def clrI (n : Int) (W : Int → Int → Int) (k : Int) : Int → Int → Int := fun i => if i ≠ k ∧ W i k ≠ 0 then lowI n (crsI W k i) else W i
theorem clrI_cN (n k : Nat) (W : Int → Int → Int) : cN (clrI n W k) = KN.clr n (cN W) k := by
  funext i j
  have e : cV (crsI W k i) = KN.crs (cN W) k i := rfl
  show clrI n W k i j = KN.clr n (cN W) k i j
  unfold clrI KN.clr
  by_cases c : (i : Int) ≠ k ∧ W i k ≠ 0
  · rw [if_pos c, if_pos ⟨fun z => c.1 (by rw [z]), c.2⟩, ← e, ← lowI_cV]
  · rw [if_neg c, if_neg fun z => c ⟨by omega, z.2⟩]
theorem c_clr {t E : Nat} {m n k : Int} {W : Int → Int → Int} {Q : T → Prop} (hm : 0 ≤ m ∧ m ≤ 100) (hn : 0 ≤ n ∧ n ≤ 100) (hk : 0 ≤ k ∧ k < m ∧ k < n) (hz : ∀ i j, 0 ≤ i → i < m → 0 ≤ j → j < n → Sz E (W i j)) (hE : E + E + 1 ≤ 13500) (h : Q (.lst (rowsT m n (clrI n W k)))) : Cl (gam tbl (t + 3) 4 [.lst (rowsT m n W), .int k, .int k] Q) := by
  obtain ⟨k0, k1, k2⟩ := hk
  have zk := hz k k k0 k1 k0 k2
  refine enter rfl rfl rfl ?_
  simp only [d4, entry]
  walk_at "gn"
  rw [Int.toNat_of_nonneg hm.1]
  walk_at "gn"
  refine forL_range (fun j env => 0 ≤ j ∧ env = [.sh (.lst (rowsT m n W)), .sh (.int k), .sh (.int k), .sh (.int (W k k)), .ow 1 (.lst ((rgL 0 j).map fun i => T.tup (iL (fL n (clrI n W k i))))), .em, .em, .em, .em, .em]) hm.1 _ ⟨by decide, rfl⟩ ?_ ?_
  · rintro j env K j0 j1 ⟨_, rfl⟩ hK
    have lj : ((rgL 0 j).map fun i => T.tup (iL (fL n (clrI n W k i)))).length < sizeLine := by rw [len_rg]; unfold sizeLine; omega
    have fin : ((rgL 0 j).map fun i => T.tup (iL (fL n (clrI n W k i)))) ++ [.tup (iL (fL n (clrI n W k j)))] = (rgL 0 (j + 1)).map fun i => T.tup (iL (fL n (clrI n W k i))) := (rg_snoc _ j0).symm
    walk_at "gn"
    refine st_ite ?_
    walk_at "gn"
    refine iteE (fun h1 => ?_) fun h1 => ?_
    · walk_at "gn"
      refine iteE (fun h2 => ?_) fun h2 => absurd h1 h2
      walk_at "gn"
      refine hK _ ⟨by omega, ?_⟩
      have : clrI n W k j = W j := by unfold clrI; rw [if_neg fun z => z.1 h1]
      rw [← fin, this]
    · walk_at "gn"
      refine iteE (fun h2 => ?_) fun h2 => ?_
      · walk_at "gn"
        refine hK _ ⟨by omega, ?_⟩
        have : clrI n W k j = W j := by unfold clrI; rw [if_neg fun z => z.2 h2]
        rw [← fin, this]
      · walk_at "gn"
        rw [zip_fL]
        refine lc_rng (fun i => .int (crsI W k j i)) (by omega) (fun i i0 i1 acc K ha hK => ?_) ?_
        · walk_at "gn"
          refine ⟨mul_ok (hz j i j0 j1 i0 i1) zk (by omega), ?_⟩
          refine ⟨mul_ok (hz j k j0 j1 k0 k2) (hz k i k0 k1 i0 i1) (by omega), ?_⟩
          exact ⟨ha, hK⟩
        rw [fL_map]
        walk_at "gn"
        have cl : ∀ Z : T → Prop, Z (.tup (iL (fL n (lowI n (crsI W k j))))) → Cl (gam tbl (t + 2) 1 [.lst (iL (fL n (crsI W k j)))] Z) := fun Z hZ => c_low (a := false) (k := t) (by omega) (fun i i0 i1 => div_small (b := E + E + 1) (((hz j i j0 j1 i0 i1).mul zk).sub ((hz j k j0 j1 k0 k2).mul (hz k i k0 k1 i0 i1))) hE) hZ
        refine cl _ ?_
        walk_at "gn"
        refine hK _ ⟨by omega, ?_⟩
        have : clrI n W k j = lowI n (crsI W k j) := by unfold clrI; rw [if_pos ⟨h1, h2⟩]
        rw [← fin, this]
  · rintro env ⟨_, rfl⟩
    walk_at "gn"
    exact h
end K08

namespace K08
open PySem PySem.Spec PyProof.Rows L2 PT
local macro_rules | `(tactic| walk_at "wp") => `(tactic| simp only [↓PT.q_callK, PT.q_pk1, PT.q_pk10, PT.q_pk01, PT.wpE, PT.wpEs, PT.wpO, PT.wpB, PT.wpC, PT.wpI, PT.wpIS, PT.q_var, PT.q_vsh, PT.q_vow, PT.q_vbr, PT.q_val, PT.Env.get, PT.takes, PT.taksO, PT.taksF, PT.takF, PT.entO, PT.keeps, PT.bltT, PT.flatIf, PT.bwT, PT.wpFrz, PT.wpRetV, PT.wpL, PT.lvT, PT.nxtP, PT.wpMv, PT.Env.store, PT.Env.put, PT.Env.puts, PT.Env.wipe, PT.Env.mut, PT.Sl.unroot, PT.Sl.muted, PT.q_og0, PT.q_ogS, q_seq, q_idx, q_len, q_lst, q_tup, q_isin, q_add, q_sub, q_mul, q_fdiv, q_fdivN, q_fdivW, q_mod, q_pow, q_addL, q_mulL, q_addT, q_lt, q_le, q_gt, q_ge, q_eq, q_ne, q_eqLL, q_neLL, q_eqTT, q_neTT, q_eqLT, q_neLT, q_eqTL, q_neTL, q_eqB, q_neB, q_isN, q_notN, q_in_L, q_in_T, q_notInL, q_notInT, q_idxL, q_idxT, q_idxS, q_slc, q_slcT, q_fst, q_end, q_neg, q_tru, q_asI, q_asIs0, q_asIs1, q_lenL, q_lenT, q_lenS, q_abs, q_maxI, q_minI, q_maxL, q_maxT, q_minL, q_minT, q_sumL, q_sumT, q_all, q_any, q_intI, q_intB, q_tupL, q_tupT, q_lstL, q_lstT, q_lstS, q_rng1, q_rng2, q_seqL, q_seqT, q_seqS, q_gcd, q_isiI, q_isiB, q_isiL, q_isiT, q_isiN, q_isiS, q_unp, q_take0, q_takeF, q_takeI, q_keep0, q_keepF, q_sl0, q_slF, q_slB, q_it0, q_itF, q_itB, q_sh0, q_sh1, q_sh2, q_shF, q_frz0, q_frzF, q_asgN, q_asgF, q_rd0, q_rdF, PT.q_put0, PT.It.slots, List.map_cons, List.map_nil, List.append_nil, List.nil_append, List.cons_append, List.length_cons, List.length_nil, List.length_map, List.zip_cons_cons, List.zip_nil_left, PT.rgL_len, PT.fL_len, Int.sub_zero, List.any_cons, List.any_nil, PT.kdIs, Bool.or_false, Bool.false_or, Bool.or_true, Bool.and_true, Bool.true_and, Bool.not_true, Bool.not_false, Bool.not_eq_true', decide_eq_true_eq, decide_eq_false_iff_not, Bool.false_eq_true, Bool.true_eq_false, reduceCtorEq, if_true, if_false, ite_not, true_and, and_true, eq_self, len_iL, decide_true, decide_false, Nat.reduceAdd, Nat.reduceSub, reduceIte, Nat.reduceLT, Nat.reduceEqDiff, ne_eq, not_false_eq_true, not_true_eq_false, PT.T.isNon, true_or, false_or, Nat.le_refl, Nat.lt_irrefl, Nat.zero_lt_succ, Nat.not_lt_zero, PT.T.flat, List.all_cons, List.all_nil, List.replicate, PT.q_at0, Option.some.injEq, T.lst.injEq, exists_and_left, exists_eq_left, exists_eq_left', rd0, rd1, rd2, rd3, rd4, rd5, rd6, rd7, rd8, rd9, rd10, rd11, rd12, rd13, rd14, rd15, rd16, rd17, rd18, rd19, rd20, rd21, rd22, rd23])
local macro_rules | `(tactic| walk_at "st") => `(tactic| with_reducible first | refine st_asg ?_ | refine st_own ?_ | refine st_frz ?_ | refine st_fgt ?_ | refine st_fst ?_ | refine st_ret ?_ | refine st_retV ?_ | refine st_app ?_ | refine st_sto ?_ | refine st_appMv ?_ | refine st_ali ?_ | refine st_unp ?_ | refine st_forD ?_ | refine st_retN ?_ | refine st_brk ?_ | refine st_cnt ?_ | refine st_pas ?_ | refine st_ex ?_ | refine st_ite ?_ | refine st_for ?_ | refine st_nil ?_)
local macro_rules | `(tactic| walk_at "ob") => `(tactic| first | exact trivial | assumption | (with_reducible rfl) | omega | decide | exact mul_okL (by omega) (by omega) | exact mul_okR (by omega) (by omega) | exact mul_ok (by assumption) (by assumption) (by decide) | (unfold sizeLine; omega))
local macro_rules | `(tactic| walk_at "cj") => `(tactic| with_reducible first | refine And.intro (by walk_at "ob") ?_ | refine x_l0 ?_ | refine x_l1 ?_ | refine x_l2 ?_ | refine x_l3 ?_ | refine x_fL (by omega) (by omega) ?_ | refine x_rg (by omega) (by omega) ?_ | refine x_lastI (by omega) ?_ | refine x_last (by omega) ?_ | refine x_idx (by omega) (by omega) ?_ | refine x_ix (by omega) (by omega) ?_)
local macro_rules | `(tactic| walk_at "sn") => `(tactic| with_reducible first | refine st_asg ?_ | refine st_own ?_ | refine st_frz ?_ | refine st_fgt ?_ | refine st_fst ?_ | refine st_ret ?_ | refine st_retV ?_ | refine st_app ?_ | refine st_sto ?_ | refine st_appMv ?_ | refine st_ali ?_ | refine st_unp ?_ | refine st_forD ?_ | refine st_retN ?_ | refine st_brk ?_ | refine st_cnt ?_ | refine st_pas ?_ | refine st_ex ?_ | refine st_for ?_ | refine st_nil ?_)
local macro_rules | `(tactic| walk_at "gn") => `(tactic| (repeat (first | walk_at "cj" | walk_at "sn" | walk_at "wp")))
local macro_rules | `(tactic| walk_at "go") => `(tactic| (repeat (first | walk_at "cj" | walk_at "st" | walk_at "wp")))

theorem rep0 (n : Int) : (List.replicate n.toNat [T.int 0]).flatten = iL (fL n fun _ => 0) := by
  rw [iL_fL]
  have : ∀ k : Nat, (List.replicate k [T.int 0]).flatten = (List.range k).map fun _ => T.int 0 := by
    intro k
    induction k with
    | zero => rfl
    | succ k ih => rw [List.replicate_succ', List.flatten_append, ih, List.range_succ, List.map_append]; rfl
  rw [this, rgL_eq, List.map_map, Int.sub_zero]
  rfl
def depI (W : Int → Int → Int) (k b : Int) : Int → Int := fun j => if j = k then b else if j < k then -W j k * b.fdiv (W j j) else 0
abbrev diaL (W : Int → Int → Int) (k : Int) : List Int := fL k fun i => ((W i i).natAbs : Int)
theorem depI_cV {W : Int → Int → Int} {k : Nat} {b : Int} (hd : ∀ i : Nat, i < k → W i i ∣ b) : cV (depI W k b) = KN.depR (cN W) k b := by
  funext j
  show depI W k b j = KN.depR (cN W) k b j
  unfold depI KN.depR
  by_cases e : (j : Int) = k
  · have e2 : j = k := by omega
    rw [if_pos e, if_pos e2]
  · have e2 : ¬ j = k := by omega
    rw [if_neg e, if_neg e2]
    by_cases c : (j : Int) < k
    · have c2 : j < k := by omega
      rw [if_pos c, if_pos c2, Int.fdiv_eq_ediv_of_dvd (hd j c2)]
    · have c2 : ¬ j < k := by omega
      rw [if_neg c, if_neg c2]
theorem c_dep {t E : Nat} {m n k : Int} {W : Int → Int → Int} {Q : T → Prop} (hm : 0 ≤ m ∧ m ≤ 100) (hn : 0 ≤ n ∧ n ≤ 100) (hk : 0 ≤ k ∧ k ≤ m ∧ k < n) (hz : ∀ i j, 0 ≤ i → i < m → 0 ≤ j → j < n → Sz E (W i j)) (hE : E ≤ 9000) (hp : ∀ i, 0 ≤ i → i < k → W i i ≠ 0)
    (hq : ∀ b, Multi (diaL W k) E b → ∀ j, 0 ≤ j → j < n → DivS (depI W k b j) (gcdL (fL n (depI W k b)))) (h : ∀ b, Multi (diaL W k) E b → Q (.tup (iL (fL n (lowI n (depI W k b)))))) :
    Cl (gam tbl (t + 3) 5 [.lst (rowsT m n W), .lst (iL (fL k fun i => i)), .int k, .int n] Q) := by
  obtain ⟨k0, k1, k2⟩ := hk
  refine enter rfl rfl rfl ?_
  simp only [d5, entry]
  walk_at "gn"
  rw [Int.toNat_of_nonneg k0]
  walk_at "gn"
  refine lc_rng (fun i => .int ((W i i).natAbs : Int)) (by omega) (fun i i0 i1 acc K ha hK => ?_) ?_
  · walk_at "gn"
    exact hK
  rw [fL_map]
  walk_at "gn"
  refine c_cm (k := t + 1) hE (by rw [fL_len]; omega) (fun x hx => ?_) fun b hb => ?_
  · unfold fL at hx
    obtain ⟨i, hi, rfl⟩ := List.mem_map.mp hx
    obtain ⟨i0, i1⟩ := rgL_mem hi
    have := hp i i0 i1
    refine ⟨by omega, ?_⟩
    show ((W i i).natAbs : Int).natAbs < _
    rw [Int.natAbs_natCast]
    exact hz i i i0 (by omega) i0 (by omega)
  walk_at "gn"
  rw [rep0]
  refine ⟨k.toNat, ixN_at k0 (by rw [len_iL, fL_len]; omega), ?_⟩
  walk_at "gn"
  rw [fL_set k0]
  rw [Int.toNat_of_nonneg k0]
  walk_at "gn"
  have hdv : ∀ i, 0 ≤ i → i < k → W i i ∣ b := fun i i0 i1 => by
    have : ((W i i).natAbs : Int) ∣ b := hb.all _ (by unfold fL; exact List.mem_map.mpr ⟨i, mem_rgL i0 i1, rfl⟩)
    exact Int.natAbs_dvd.mp this
  refine forL_range (fun j env => 0 ≤ j ∧ env = [.sh (.lst (rowsT m n W)), .sh (.lst (iL (fL k fun i => i))), .sh (.int k), .sh (.int n), .sh (.int b), .ow 1 (.lst (iL (fL n fun i => if i = k then b else if i < j then -W i k * b.fdiv (W i i) else 0))), .em]) k0 _ ⟨by decide, ?_⟩ ?_ ?_
  · have : fL n (fun i => if i = k then b else 0) = fL n fun i => if i = k then b else if i < 0 then -W i k * b.fdiv (W i i) else 0 := fL_congr fun i i0 i1 => by
      by_cases e : i = k
      · rw [if_pos e, if_pos e]
      · rw [if_neg e, if_neg e, if_neg (by omega)]
    rw [this]
  · rintro j env K j0 j1 ⟨_, rfl⟩ hK
    have w0 := hp j j0 j1
    have szb : Sz (fL k fun i => ((W i i).natAbs : Int)).length.succ b ∨ True := .inr trivial
    have sb := hb.sz
    have bl : (diaL W k).length * E ≤ 100 * 9000 := Nat.mul_le_mul (by rw [fL_len]; omega) hE
    have zd : Sz ((diaL W k).length * E + 1) (b.fdiv (W j j)) := by
      rw [Int.fdiv_eq_ediv_of_dvd (hdv j j0 j1)]
      refine Nat.lt_of_le_of_lt ?_ sb
      have := congrArg Int.natAbs (Int.mul_ediv_cancel' (hdv j j0 j1))
      rw [Int.natAbs_mul] at this
      rw [← this]
      exact Nat.le_mul_of_pos_left _ (by omega)
    walk_at "gn"
    refine ⟨⟨w0, div_low (hz j j j0 (by omega) j0 (by omega)) hE⟩, ?_⟩
    refine ⟨mul_ok (hz j k j0 (by omega) k0 k2).neg zd (by omega), ?_⟩
    walk_at "gn"
    rw [fL_set j0]
    refine hK _ ⟨by omega, ?_⟩
    have : fL n (fun i => if i = j then -W j k * b.fdiv (W j j) else if i = k then b else if i < j then -W i k * b.fdiv (W i i) else 0) = fL n fun i => if i = k then b else if i < j + 1 then -W i k * b.fdiv (W i i) else 0 := fL_congr fun i i0 i1 => by
      by_cases e : i = j
      · subst e
        rw [if_pos rfl, if_neg (by omega), if_pos (by omega)]
      · rw [if_neg e]
        by_cases e2 : i = k
        · rw [if_pos e2, if_pos e2]
        · rw [if_neg e2, if_neg e2]
          by_cases c : i < j
          · rw [if_pos c, if_pos (by omega)]
          · rw [if_neg c, if_neg (by omega)]
    rw [this]
  · rintro env ⟨_, rfl⟩
    walk_at "gn"
    exact c_low (k := t) (a := false) (by omega) (hq b hb) (h b hb)
end K08

namespace K08
open PySem PySem.Spec PyProof.Rows L2 PT
local macro_rules | `(tactic| walk_at "wp") => `(tactic| simp only [↓PT.q_callK, PT.q_pk1, PT.q_pk10, PT.q_pk01, PT.wpE, PT.wpEs, PT.wpO, PT.wpB, PT.wpC, PT.wpI, PT.wpIS, PT.q_var, PT.q_vsh, PT.q_vow, PT.q_vbr, PT.q_val, PT.Env.get, PT.takes, PT.taksO, PT.taksF, PT.takF, PT.entO, PT.keeps, PT.bltT, PT.flatIf, PT.bwT, PT.wpFrz, PT.wpRetV, PT.wpL, PT.lvT, PT.nxtP, PT.wpMv, PT.Env.store, PT.Env.put, PT.Env.puts, PT.Env.wipe, PT.Env.mut, PT.Sl.unroot, PT.Sl.muted, PT.q_og0, PT.q_ogS, q_seq, q_idx, q_len, q_lst, q_tup, q_isin, q_add, q_sub, q_mul, q_fdiv, q_fdivN, q_fdivW, q_mod, q_pow, q_addL, q_mulL, q_addT, q_lt, q_le, q_gt, q_ge, q_eq, q_ne, q_eqLL, q_neLL, q_eqTT, q_neTT, q_eqLT, q_neLT, q_eqTL, q_neTL, q_eqB, q_neB, q_isN, q_notN, q_in_L, q_in_T, q_notInL, q_notInT, q_idxL, q_idxT, q_idxS, q_slc, q_slcT, q_fst, q_end, q_neg, q_tru, q_asI, q_asIs0, q_asIs1, q_lenL, q_lenT, q_lenS, q_abs, q_maxI, q_minI, q_maxL, q_maxT, q_minL, q_minT, q_sumL, q_sumT, q_all, q_any, q_intI, q_intB, q_tupL, q_tupT, q_lstL, q_lstT, q_lstS, q_rng1, q_rng2, q_seqL, q_seqT, q_seqS, q_gcd, q_isiI, q_isiB, q_isiL, q_isiT, q_isiN, q_isiS, q_unp, q_take0, q_takeF, q_takeI, q_keep0, q_keepF, q_sl0, q_slF, q_slB, q_it0, q_itF, q_itB, q_sh0, q_sh1, q_sh2, q_shF, q_frz0, q_frzF, q_asgN, q_asgF, q_rd0, q_rdF, PT.q_put0, PT.It.slots, List.map_cons, List.map_nil, List.append_nil, List.nil_append, List.cons_append, List.length_cons, List.length_nil, List.length_map, List.zip_cons_cons, List.zip_nil_left, PT.rgL_len, PT.fL_len, Int.sub_zero, List.any_cons, List.any_nil, PT.kdIs, Bool.or_false, Bool.false_or, Bool.or_true, Bool.and_true, Bool.true_and, Bool.not_true, Bool.not_false, Bool.not_eq_true', decide_eq_true_eq, decide_eq_false_iff_not, Bool.false_eq_true, Bool.true_eq_false, reduceCtorEq, if_true, if_false, ite_not, true_and, and_true, eq_self, len_iL, decide_true, decide_false, Nat.reduceAdd, Nat.reduceSub, reduceIte, Nat.reduceLT, Nat.reduceEqDiff, ne_eq, not_false_eq_true, not_true_eq_false, PT.T.isNon, true_or, false_or, Nat.le_refl, Nat.lt_irrefl, Nat.zero_lt_succ, Nat.not_lt_zero, PT.T.flat, List.all_cons, List.all_nil, List.replicate, PT.q_at0, Option.some.injEq, T.lst.injEq, exists_and_left, exists_eq_left, exists_eq_left', rd0, rd1, rd2, rd3, rd4, rd5, rd6, rd7, rd8, rd9, rd10, rd11, rd12, rd13, rd14, rd15, rd16, rd17, rd18, rd19, rd20, rd21, rd22, rd23])
local macro_rules | `(tactic| walk_at "st") => `(tactic| with_reducible first | refine st_asg ?_ | refine st_own ?_ | refine st_frz ?_ | refine st_fgt ?_ | refine st_fst ?_ | refine st_ret ?_ | refine st_retV ?_ | refine st_app ?_ | refine st_sto ?_ | refine st_appMv ?_ | refine st_ali ?_ | refine st_unp ?_ | refine st_forD ?_ | refine st_retN ?_ | refine st_brk ?_ | refine st_cnt ?_ | refine st_pas ?_ | refine st_ex ?_ | refine st_ite ?_ | refine st_for ?_ | refine st_nil ?_)
local macro_rules | `(tactic| walk_at "ob") => `(tactic| first | exact trivial | assumption | (with_reducible rfl) | omega | decide | exact mul_okL (by omega) (by omega) | exact mul_okR (by omega) (by omega) | exact mul_ok (by assumption) (by assumption) (by decide) | (unfold sizeLine; omega))
local macro_rules | `(tactic| walk_at "cj") => `(tactic| with_reducible first | refine And.intro (by walk_at "ob") ?_ | refine x_l0 ?_ | refine x_l1 ?_ | refine x_l2 ?_ | refine x_l3 ?_ | refine x_fL (by omega) (by omega) ?_ | refine x_rg (by omega) (by omega) ?_ | refine x_lastI (by omega) ?_ | refine x_last (by omega) ?_ | refine x_idx (by omega) (by omega) ?_ | refine x_ix (by omega) (by omega) ?_)
local macro_rules | `(tactic| walk_at "sn") => `(tactic| with_reducible first | refine st_asg ?_ | refine st_own ?_ | refine st_frz ?_ | refine st_fgt ?_ | refine st_fst ?_ | refine st_ret ?_ | refine st_retV ?_ | refine st_app ?_ | refine st_sto ?_ | refine st_appMv ?_ | refine st_ali ?_ | refine st_unp ?_ | refine st_forD ?_ | refine st_retN ?_ | refine st_brk ?_ | refine st_cnt ?_ | refine st_pas ?_ | refine st_ex ?_ | refine st_for ?_ | refine st_nil ?_)
local macro_rules | `(tactic| walk_at "gn") => `(tactic| (repeat (first | walk_at "cj" | walk_at "sn" | walk_at "wp")))
local macro_rules | `(tactic| walk_at "go") => `(tactic| (repeat (first | walk_at "cj" | walk_at "st" | walk_at "wp")))

def swpI (W : Int → Int → Int) (k f : Int) : Int → Int → Int := fun i => if i = f then W k else if i = k then W f else W i
theorem swpI_cN (k f : Nat) (W : Int → Int → Int) : cN (swpI W k f) = KN.swp (cN W) k f := by
  funext i j
  show swpI W k f i j = KN.swp (cN W) k f i j
  unfold swpI KN.swp
  by_cases c : (i : Int) = f
  · have c2 : i = f := by omega
    rw [if_pos c, if_pos c2]
  · have c2 : ¬ i = f := by omega
    rw [if_neg c, if_neg c2]
    by_cases d : (i : Int) = k
    · have d2 : i = k := by omega
      rw [if_pos d, if_pos d2]
    · have d2 : ¬ i = k := by omega
      rw [if_neg d, if_neg d2]
structure St (m n : Nat) (A : Int → Int → Int) (k : Nat) (W : Int → Int → Int) : Prop where
  sh : KN.Shape m n k (cN W)
  ke : ∀ y, KN.Ker m n (cN W) y ↔ KN.Ker m n (cN A) y
  sm : KN.Small m n k (cN A) (cN W)
theorem St.next {m n k f : Nat} {A W : Int → Int → Int} (S : St m n A k W) (hkf : k ≤ f) (hf : f < m) (hn : k < n) (hp : W f k ≠ 0) : St m n A (k + 1) (clrI n (swpI W k f) k) := by
  have pv : KN.swp (cN W) k f k k ≠ 0 := by
    unfold KN.swp
    by_cases e : k = f
    · subst e; rw [if_pos rfl]; exact hp
    · rw [if_neg e, if_pos rfl]; exact hp
  have hk : k < m := by omega
  have e : cN (clrI n (swpI W k f) k) = KN.clr n (KN.swp (cN W) k f) k := by rw [clrI_cN, swpI_cN]
  refine ⟨?_, fun y => ?_, ?_⟩
  · rw [e]; exact (S.sh.swap hkf hf).clear hk hn pv
  · rw [e, KN.ker_clr hk pv, KN.ker_swp hk hf]; exact S.ke y
  · rw [e]; exact (S.sm.swap hk hf).clear hk hn pv
/-- what the found row is -/
structure Found (m n : Nat) (A : Int → Int → Int) (k : Nat) (x : Int → Int) : Prop where
  lt : k < n
  ind : KN.Indep m n k (cN A)
  sup : ∀ j : Nat, k < j → j < n → x j = 0
  pos : 0 < x k
  prim : KN.Prim n (cV x)
  ker : KN.Ker m n (cN A) (cV x)
  sz : ∀ j : Int, 0 ≤ j → j < n → Sz 1000000 (x j)
theorem found_of {m n k E : Nat} {A W : Int → Int → Int} {b : Int} (S : St m n A k W) (hk : k < n) (hE : E ≤ 9000) (hn : n ≤ 100) (hz : ∀ i j, 0 ≤ i → i < (m : Int) → 0 ≤ j → j < (n : Int) → Sz E (W i j)) (h0 : ∀ i : Nat, k ≤ i → i < m → W i k = 0) (hb : Multi (diaL W k) E b) : Found m n A k (lowI n (depI W k b)) := by
  have hdv : ∀ i : Nat, i < k → W i i ∣ b := fun i i1 => by
    have : ((W i i).natAbs : Int) ∣ b := hb.all _ (by unfold diaL fL; exact List.mem_map.mpr ⟨i, mem_rgL (by omega) (by omega), rfl⟩)
    exact Int.natAbs_dvd.mp this
  have e : cV (lowI n (depI W k b)) = KN.low n (KN.depR (cN W) k b) := by rw [lowI_cV, depI_cV hdv]
  have at_ : ∀ j : Nat, lowI n (depI W k b) j = KN.low n (KN.depR (cN W) k b) j := fun j => congrFun e j
  have dk : KN.depR (cN W) k b k = b := by unfold KN.depR; rw [if_pos rfl]
  have kd := S.sh.ker hk (b := b) h0 hdv
  obtain ⟨g, g1, g2⟩ := KN.low_mul n (KN.depR (cN W) k b)
  refine ⟨hk, KN.indep_of (S.sh.indep (by omega)) S.ke, fun j j0 j1 => ?_, ?_, ?_, ?_, fun j j0 j1 => ?_⟩
  · rw [at_, KN.low_zero j1]
    unfold KN.depR
    rw [if_neg (by omega), if_neg (by omega)]
  · rw [at_]
    refine Classical.byContradiction fun z => ?_
    have q := g2 k hk
    rw [dk] at q
    have : g * KN.low n (KN.depR (cN W) k b) k ≤ 0 := Int.mul_nonpos_of_nonneg_of_nonpos (by omega) (by omega)
    have := hb.pos
    omega
  · rw [e]
    exact KN.low_prim hk (by rw [dk]; have := hb.pos; omega)
  · rw [e]
    refine (S.ke _).mp fun i hi => ?_
    have q := kd i hi
    have e2 : g * KN.dot n (cN W i) (KN.low n (KN.depR (cN W) k b)) = KN.dot n (cN W i) (KN.depR (cN W) k b) := by
      unfold KN.dot
      rw [← LP.sumN_mul]
      exact LP.sumN_congr fun j hj => by rw [Int.mul_left_comm, g2 j hj]
    rw [q] at e2
    rcases Int.mul_eq_zero.mp e2 with z | z
    · omega
    · exact z
  · obtain ⟨j, rfl⟩ := Int.eq_ofNat_of_zero_le j0
    have j1 : j < n := by omega
    have km := S.sh.le
    have ll : (diaL W k).length = k := by unfold diaL; rw [fL_len]; omega
    have bs := hb.sz
    rw [ll] at bs
    have kE : k * E ≤ 100 * 9000 := Nat.mul_le_mul (by omega) hE
    have zd : Sz 1000000 (KN.depR (cN W) k b j) := by
      unfold KN.depR
      split
      · exact bs.mono (by omega)
      · split
        · rename_i c
          have s1 : Sz (k * E + 1) (b / cN W j j) := by
            refine Nat.lt_of_le_of_lt ?_ bs
            have := congrArg Int.natAbs (Int.mul_ediv_cancel' (hdv j c))
            rw [Int.natAbs_mul] at this
            rw [← this]
            exact Nat.le_mul_of_pos_left _ (by have := S.sh.piv j c; show 0 < (cN W j j).natAbs; omega)
          exact ((hz j k (by omega) (by omega) (by omega) (by omega)).neg.mul s1).mono (by omega)
        · show (0 : Int).natAbs < _
          exact Nat.pow_pos (by decide)
    rw [at_]
    refine Nat.lt_of_le_of_lt ?_ zd
    have q := congrArg Int.natAbs (g2 j j1)
    rw [Int.natAbs_mul] at q
    rw [← q]
    exact Nat.le_mul_of_pos_left _ (by omega)
theorem Found.first {m n k : Nat} {A : Int → Int → Int} {x : Int → Int} (h : Found m n A k x) : KN.First m n k (cN A) := ⟨h.lt, h.ind, cV x, h.sup, by have := h.pos; show x k ≠ 0; omega, h.ker⟩
theorem c_ker {t E : Nat} {m n : Nat} {a b : Bool} {A : Int → Int → Int} {Q : T → Prop} (hm : m ≤ 100) (hn : n ≤ 100) (hE : E + 1 ≤ 6700)
    (hA : ∀ i j : Nat, i < m → j < n → (A i j).natAbs ≤ 2 ^ E) (hP : KN.pr m (fun c => 1 + 2 * KN.suA n fun j => cN A c j) ≤ 2 ^ E)
    (hq : ∀ (W : Int → Int → Int) (k : Nat) (b : Int), k < n → St m n A k W → (∀ i : Nat, k ≤ i → i < m → W i k = 0) → (∀ i j, 0 ≤ i → i < (m : Int) → 0 ≤ j → j < (n : Int) → Sz (E + 1) (W i j)) → Multi (diaL W k) (E + 1) b → ∀ j : Int, 0 ≤ j → j < n → DivS (depI W k b j) (gcdL (fL n (depI W k b))))
    (h1 : KN.Indep m n n (cN A) → Q .non) (h2 : ∀ (k : Nat) (x : Int → Int), Found m n A k x → Q (.tup (iL (fL n x)))) :
    Cl (gam tbl (t + 4) 6 [sq a ((rgL 0 m).map fun i => sq b (iL (fL n (A i)))), .int n] Q) := by
  have r1 : ∀ (g : Int → T) (j : Nat) (v : T), ((rgL 0 (m : Int)).map g).set j v = (rgL 0 (m : Int)).map fun i => if i = (j : Int) then v else g i := fun g j v => by
    have := rg_set (n := (m : Int)) (k := (j : Int)) (f := g) (v := v) (by omega)
    rw [Int.toNat_natCast] at this
    exact this
  refine enter rfl rfl rfl ?_
  simp only [d6, entry]
  walk_at "gn"
  refine lc_rg (fun i => .tup (iL (fL n (A i)))) (by omega) (fun j j0 j1 acc K ha hK => ?_) ?_
  · walk_at "gn"
    exact hK
  walk_at "gn"
  refine forL_range (fun k env => ∃ W, 0 ≤ k ∧ St m n A k.toNat W ∧ env = [.sh (sq a ((rgL 0 m).map fun i => sq b (iL (fL n (A i))))), .sh (.int n), .ow 1 (.lst (rowsT m n W)), .ow 1 (.lst (iL (fL k fun i => i))), .em, .em, .em, .em]) (by omega) _ ⟨A, by decide, ⟨⟨Nat.zero_le _, fun i hi => absurd hi (Nat.not_lt_zero i), fun i j _ hj => absurd hj (Nat.not_lt_zero j)⟩, fun y => Iff.rfl, KN.small_start m n _⟩, rfl⟩ ?_ ?_
  · rintro k env K k0 k1 ⟨W, _, S, rfl⟩ hK
    obtain ⟨k, rfl⟩ := Int.eq_ofNat_of_zero_le k0
    rw [Int.toNat_natCast] at S
    have kn : k < n := by omega
    have km : k ≤ m := S.sh.le
    have zW : ∀ i j, 0 ≤ i → i < (m : Int) → 0 ≤ j → j < (n : Int) → Sz (E + 1) (W i j) := fun i j i0 i1 j0 j1 => by
      obtain ⟨i, rfl⟩ := Int.eq_ofNat_of_zero_le i0
      obtain ⟨j, rfl⟩ := Int.eq_ofNat_of_zero_le j0
      have := S.sm.size (P := 2 ^ E) (by omega) (fun i j hi hj => hA i j hi hj) hP (i := i) (j := j) (by omega) (by omega)
      exact Nat.lt_of_le_of_lt this (Nat.pow_lt_pow_right (by decide) (by omega))
    walk_at "gn"
    rw [Int.toNat_natCast]
    refine c_piv (k := t + 2) (by omega) (by omega) (by omega) fun r hr => ?_
    walk_at "gn"
    refine ⟨by cases r <;> rfl, ?_⟩
    refine st_ite ?_
    cases r with
    | none =>
      have h0 : ∀ i : Nat, k ≤ i → i < m → W i k = 0 := fun i i0 i1 => hr i (by omega) (by omega)
      simp only [oT]
      walk_at "gn"
      refine c_dep (t := t) (E := E + 1) (by omega) (by omega) (by omega) zW (by omega) (fun i i0 i1 => ?_) (hq W k · kn S h0 zW) fun b hb => ?_
      · obtain ⟨i, rfl⟩ := Int.eq_ofNat_of_zero_le i0
        exact S.sh.piv i (by omega)
      · walk_at "gn"
        refine ⟨by unfold T.noL; exact noLs_iL _, ?_⟩
        exact h2 k _ (found_of S kn (by omega) hn zW h0 hb)
    | some f =>
      obtain ⟨f0, f1, f2⟩ := hr
      obtain ⟨f, rfl⟩ := Int.eq_ofNat_of_zero_le (show 0 ≤ f by omega)
      simp only [oT]
      walk_at "gn"
      rw [Int.toNat_natCast]
      walk_at "gn"
      rw [r1]
      refine ⟨f, by have := ixN_at (n := ((rgL 0 (m : Int)).map fun i => if i = (k : Int) then T.tup (iL (fL n (W f))) else T.tup (iL (fL n (W i)))).length) (k := (f : Int)) (by omega) (by rw [len_rg]; omega); rw [Int.toNat_natCast] at this; exact this, ?_⟩
      rw [r1]
      have e : ((rgL 0 (m : Int)).map fun i => if i = (f : Int) then T.tup (iL (fL n (W k))) else if i = (k : Int) then T.tup (iL (fL n (W f))) else T.tup (iL (fL n (W i)))) = rowsT m n (swpI W k f) := rg_congr fun i _ _ => by
        unfold swpI
        split
        · rfl
        · split <;> rfl
      simp only [Int.toNat_natCast]
      rw [e]
      walk_at "gn"
      simp only [Int.toNat_natCast]
      have zS : ∀ i j, 0 ≤ i → i < (m : Int) → 0 ≤ j → j < (n : Int) → Sz (E + 1) (swpI W k f i j) := fun i j i0 i1 j0 j1 => by
        unfold swpI
        split
        · exact zW k j (by omega) (by omega) j0 j1
        · split
          · exact zW f j (by omega) (by omega) j0 j1
          · exact zW i j i0 i1 j0 j1
      refine c_clr (t := t) (E := E + 1) (by omega) (by omega) (by omega) zS (by omega) ?_
      refine ⟨noLs_map (fun i => by unfold T.noL; exact noLs_iL _) _, ?_⟩
      walk_at "gn"
      refine hK _ ⟨clrI n (swpI W k f) k, by omega, ?_, ?_⟩
      · rw [show ((k : Int) + 1).toNat = k + 1 by omega]
        exact S.next (by omega) (by omega) kn f2
      · rw [fL_snoc _ k0, iL_snoc]
  · rintro env ⟨W, _, S, rfl⟩
    walk_at "gn"
    rw [Int.toNat_natCast] at S
    exact h1 (KN.indep_of (S.sh.indep (Nat.le_refl _)) S.ke)
end K08

namespace K08
open PySem PySem.Spec PyProof.Rows L2 PT
local macro_rules | `(tactic| walk_at "wp") => `(tactic| simp only [↓PT.q_callK, PT.q_pk1, PT.q_pk10, PT.q_pk01, PT.wpE, PT.wpEs, PT.wpO, PT.wpB, PT.wpC, PT.wpI, PT.wpIS, PT.q_var, PT.q_vsh, PT.q_vow, PT.q_vbr, PT.q_val, PT.Env.get, PT.takes, PT.taksO, PT.taksF, PT.takF, PT.entO, PT.keeps, PT.bltT, PT.flatIf, PT.bwT, PT.wpFrz, PT.wpRetV, PT.wpL, PT.lvT, PT.nxtP, PT.wpMv, PT.Env.store, PT.Env.put, PT.Env.puts, PT.Env.wipe, PT.Env.mut, PT.Sl.unroot, PT.Sl.muted, PT.q_og0, PT.q_ogS, q_seq, q_idx, q_len, q_lst, q_tup, q_isin, q_add, q_sub, q_mul, q_fdiv, q_fdivN, q_fdivW, q_mod, q_pow, q_addL, q_mulL, q_addT, q_lt, q_le, q_gt, q_ge, q_eq, q_ne, q_eqLL, q_neLL, q_eqTT, q_neTT, q_eqLT, q_neLT, q_eqTL, q_neTL, q_eqB, q_neB, q_isN, q_notN, q_in_L, q_in_T, q_notInL, q_notInT, q_idxL, q_idxT, q_idxS, q_slc, q_slcT, q_fst, q_end, q_neg, q_tru, q_asI, q_asIs0, q_asIs1, q_lenL, q_lenT, q_lenS, q_abs, q_maxI, q_minI, q_maxL, q_maxT, q_minL, q_minT, q_sumL, q_sumT, q_all, q_any, q_intI, q_intB, q_tupL, q_tupT, q_lstL, q_lstT, q_lstS, q_rng1, q_rng2, q_seqL, q_seqT, q_seqS, q_gcd, q_isiI, q_isiB, q_isiL, q_isiT, q_isiN, q_isiS, q_unp, q_take0, q_takeF, q_takeI, q_keep0, q_keepF, q_sl0, q_slF, q_slB, q_it0, q_itF, q_itB, q_sh0, q_sh1, q_sh2, q_shF, q_frz0, q_frzF, q_asgN, q_asgF, q_rd0, q_rdF, PT.q_put0, PT.It.slots, List.map_cons, List.map_nil, List.append_nil, List.nil_append, List.cons_append, List.length_cons, List.length_nil, List.length_map, List.zip_cons_cons, List.zip_nil_left, PT.rgL_len, PT.fL_len, Int.sub_zero, List.any_cons, List.any_nil, PT.kdIs, Bool.or_false, Bool.false_or, Bool.or_true, Bool.and_true, Bool.true_and, Bool.not_true, Bool.not_false, Bool.not_eq_true', decide_eq_true_eq, decide_eq_false_iff_not, Bool.false_eq_true, Bool.true_eq_false, reduceCtorEq, if_true, if_false, ite_not, true_and, and_true, eq_self, len_iL, decide_true, decide_false, Nat.reduceAdd, Nat.reduceSub, reduceIte, Nat.reduceLT, Nat.reduceEqDiff, ne_eq, not_false_eq_true, not_true_eq_false, PT.T.isNon, true_or, false_or, Nat.le_refl, Nat.lt_irrefl, Nat.zero_lt_succ, Nat.not_lt_zero, PT.T.flat, List.all_cons, List.all_nil, List.replicate, PT.q_at0, Option.some.injEq, T.lst.injEq, exists_and_left, exists_eq_left, exists_eq_left', rd0, rd1, rd2, rd3, rd4, rd5, rd6, rd7, rd8, rd9, rd10, rd11, rd12, rd13, rd14, rd15, rd16, rd17, rd18, rd19, rd20, rd21, rd22, rd23])
local macro_rules | `(tactic| walk_at "st") => `(tactic| with_reducible first | refine st_asg ?_ | refine st_own ?_ | refine st_frz ?_ | refine st_fgt ?_ | refine st_fst ?_ | refine st_ret ?_ | refine st_retV ?_ | refine st_app ?_ | refine st_sto ?_ | refine st_appMv ?_ | refine st_ali ?_ | refine st_unp ?_ | refine st_forD ?_ | refine st_retN ?_ | refine st_brk ?_ | refine st_cnt ?_ | refine st_pas ?_ | refine st_ex ?_ | refine st_ite ?_ | refine st_for ?_ | refine st_nil ?_)
local macro_rules | `(tactic| walk_at "ob") => `(tactic| first | exact trivial | assumption | (with_reducible rfl) | omega | decide | exact mul_okL (by omega) (by omega) | exact mul_okR (by omega) (by omega) | exact mul_ok (by assumption) (by assumption) (by decide) | (unfold sizeLine; omega))
local macro_rules | `(tactic| walk_at "cj") => `(tactic| with_reducible first | refine And.intro (by walk_at "ob") ?_ | refine x_l0 ?_ | refine x_l1 ?_ | refine x_l2 ?_ | refine x_l3 ?_ | refine x_fL (by omega) (by omega) ?_ | refine x_rg (by omega) (by omega) ?_ | refine x_lastI (by omega) ?_ | refine x_last (by omega) ?_ | refine x_idx (by omega) (by omega) ?_ | refine x_ix (by omega) (by omega) ?_)
local macro_rules | `(tactic| walk_at "sn") => `(tactic| with_reducible first | refine st_asg ?_ | refine st_own ?_ | refine st_frz ?_ | refine st_fgt ?_ | refine st_fst ?_ | refine st_ret ?_ | refine st_retV ?_ | refine st_app ?_ | refine st_sto ?_ | refine st_appMv ?_ | refine st_ali ?_ | refine st_unp ?_ | refine st_forD ?_ | refine st_retN ?_ | refine st_brk ?_ | refine st_cnt ?_ | refine st_pas ?_ | refine st_ex ?_ | refine st_for ?_ | refine st_nil ?_)
local macro_rules | `(tactic| walk_at "gn") => `(tactic| (repeat (first | walk_at "cj" | walk_at "sn" | walk_at "wp")))
local macro_rules | `(tactic| walk_at "go") => `(tactic| (repeat (first | walk_at "cj" | walk_at "st" | walk_at "wp")))

abbrev rowsL (m n : Int) (W : Int → Int → Int) : List T := (rgL 0 m).map fun i => T.lst (iL (fL n (W i)))
def clLI (W : Int → Int → Int) (k : Int) : Int → Int → Int := fun i => if k < i then crsI W k i else W i
theorem clLI_cN (k : Nat) (W : Int → Int → Int) : cN (clLI W k) = KN.clL (cN W) k := by
  funext i j
  show clLI W k i j = KN.clL (cN W) k i j
  unfold clLI KN.clL
  by_cases c : (k : Int) < i
  · have c2 : k < i := by omega
    rw [if_pos c, if_pos c2]; rfl
  · have c2 : ¬ k < i := by omega
    rw [if_neg c, if_neg c2]
structure SL (m n : Nat) (A : Int → Int → Int) (k : Nat) (W : Int → Int → Int) : Prop where
  sh : KN.Tri m n k (cN W)
  ke : ∀ y, KN.Ker m n (cN W) y ↔ KN.Ker m n (cN A) y
  sz : ∀ i j, 0 ≤ i → i < (m : Int) → 0 ≤ j → j < (n : Int) → Sz (92 * 2 ^ k - 1) (W i j)
theorem swpI_sz {m n : Int} {E : Nat} {W : Int → Int → Int} {k f : Int} (hk : 0 ≤ k ∧ k < m) (hf : 0 ≤ f ∧ f < m) (h : ∀ i j, 0 ≤ i → i < m → 0 ≤ j → j < n → Sz E (W i j)) : ∀ i j, 0 ≤ i → i < m → 0 ≤ j → j < n → Sz E (swpI W k f i j) := fun i j i0 i1 j0 j1 => by
  unfold swpI
  split
  · exact h k j hk.1 hk.2 j0 j1
  · split
    · exact h f j hf.1 hf.2 j0 j1
    · exact h i j i0 i1 j0 j1
theorem SL.next {m n k f : Nat} {A W : Int → Int → Int} (S : SL m n A k W) (hkf : k ≤ f) (hf : f < m) (hn : k < n) (hp : W f k ≠ 0) : SL m n A (k + 1) (clLI (swpI W k f) k) := by
  have pv : KN.swp (cN W) k f k k ≠ 0 := by
    unfold KN.swp
    by_cases e : k = f
    · subst e; rw [if_pos rfl]; exact hp
    · rw [if_neg e, if_pos rfl]; exact hp
  have hk : k < m := by omega
  have e : cN (clLI (swpI W k f) k) = KN.clL (KN.swp (cN W) k f) k := by rw [clLI_cN, swpI_cN]
  refine ⟨?_, fun y => ?_, fun i j i0 i1 j0 j1 => ?_⟩
  · rw [e]; exact (S.sh.swap hkf hf).clear hk pv
  · rw [e, KN.ker_clL hk pv, KN.ker_swp hk hf]; exact S.ke y
  · have q := swpI_sz (k := k) (f := f) (by omega) (by omega) S.sz
    have p1 : 1 ≤ 2 ^ k := Nat.pow_pos (by decide)
    have p2 : 2 ^ (k + 1) = 2 ^ k * 2 := Nat.pow_succ ..
    unfold clLI
    split
    · refine (((q i j i0 i1 j0 j1).mul (q k k (by omega) (by omega) (by omega) (by omega))).sub ((q i k i0 i1 (by omega) (by omega)).mul (q k j (by omega) (by omega) j0 j1))).mono ?_
      omega
    · exact (q i j i0 i1 j0 j1).mono (by omega)
def FirstP (m n : Nat) (A : Int → Int → Int) : Option Int → Prop
  | none => KN.Indep m n n (cN A)
  | some c => ∃ k : Nat, c = k ∧ KN.First m n k (cN A)
theorem set_nat {m : Int} {f : Int → T} {j : Nat} {v : T} : ((rgL 0 m).map f).set j v = (rgL 0 m).map fun i => if i = (j : Int) then v else f i := by
  have := rg_set (n := m) (k := (j : Int)) (f := f) (v := v) (by omega)
  rw [Int.toNat_natCast] at this
  exact this
theorem ix_nat {n k : Nat} {R : Nat → Prop} (h : k < n) (q : R k) : ∃ x, ixN n (k : Int) = some x ∧ R x := ⟨k, by have := ixN_at (n := n) (k := (k : Int)) (by omega) (by omega); rw [Int.toNat_natCast] at this; exact this, q⟩
theorem c_dpt {t : Nat} {m n : Nat} {A : Int → Int → Int} {Q : T → Prop} (hm : m ≤ 8) (hn : n ≤ 7) (hz : ∀ i j, 0 ≤ i → i < (m : Int) → 0 ≤ j → j < (n : Int) → Sz 91 (A i j)) (h : ∀ r, FirstP m n A r → Q (oT r)) : Cl (gam tbl (t + 1) 12 [.lst (rowsL m n A), .int n] Q) := by
  refine enter rfl rfl rfl ?_
  simp only [d12, entry]
  walk_at "gn"
  refine lc_rg (fun i => .lst (iL (fL n (A i)))) (by omega) (fun j j0 j1 acc K ha hK => ?_) ?_
  · walk_at "gn"
    exact hK
  walk_at "gn"
  refine forL_range (fun k env => ∃ W, 0 ≤ k ∧ SL m n A k.toNat W ∧ env = [.sh (.lst (rowsL m n A)), .sh (.int n), .ow 1 (.lst (rowsL m n W)), .em, .em, .em, .em, .em, .em, .em]) (by omega) _ ⟨A, by decide, ⟨⟨Nat.zero_le _, fun i hi => absurd hi (Nat.not_lt_zero i), fun i j _ hj => absurd hj (Nat.not_lt_zero j)⟩, fun y => Iff.rfl, hz⟩, rfl⟩ ?_ ?_
  · rintro k env K k0 k1 ⟨W, _, S, rfl⟩ hK
    obtain ⟨k, rfl⟩ := Int.eq_ofNat_of_zero_le k0
    rw [Int.toNat_natCast] at S
    have kn : k < n := by omega
    have km : k ≤ m := S.sh.le
    walk_at "gn"
    simp only [Int.toNat_natCast]
    refine forL_range (fun j env => ∃ r, FoundP j k k W r ∧ env = [.sh (.lst (rowsL m n A)), .sh (.int n), .ow 1 (.lst (rowsL m n W)), .sh (.int k), .sh (oT r), .em, .em, .em, .em, .em]) (by omega) _ ⟨none, fun i i0 i1 => absurd i0 (by omega), rfl⟩ ?_ ?_
    · rintro j env K j0 j1 ⟨r, hr, rfl⟩ hK
      have jj : 0 ≤ j := by omega
      cases r with
      | some f =>
        obtain ⟨f0, f1, f2⟩ := hr
        simp only [oT]
        walk_at "gn"
        refine hK _ ⟨some f, ⟨f0, by omega, f2⟩, rfl⟩
      | none =>
        simp only [oT]
        walk_at "gn"
        refine st_ite ?_
        walk_at "gn"
        refine iteE (fun h1 => ?_) fun h1 => ?_
        · walk_at "gn"
          refine hK _ ⟨none, fun i i0 i1 => ?_, rfl⟩
          by_cases e : i = j
          · subst e; exact h1
          · exact hr i i0 (by omega)
        · walk_at "gn"
          refine hK _ ⟨some j, ⟨j0, by omega, h1⟩, rfl⟩
    · rintro env ⟨r, hr, rfl⟩
      cases r with
      | none =>
        simp only [oT]
        walk_at "gn"
        refine st_ite ?_
        walk_at "gn"
        obtain ⟨y, y1, y2, y3⟩ := S.sh.dep kn fun i i0 i1 => hr i (by omega) (by omega)
        exact h (some k) ⟨k, rfl, kn, KN.indep_of (S.sh.indep (by omega)) S.ke, y, y1, y2, (S.ke y).mp y3⟩
      | some f =>
        obtain ⟨f0, f1, f2⟩ := hr
        obtain ⟨f, rfl⟩ := Int.eq_ofNat_of_zero_le (show 0 ≤ f by omega)
        have S2 := S.next (by omega) (by omega) kn f2
        have km2 : k < m := by omega
        have qz := swpI_sz (k := k) (f := f) (by omega) (by omega) S.sz
        simp only [oT]
        walk_at "gn"
        refine st_ite ?_
        walk_at "gn"
        simp only [Int.toNat_natCast, set_nat]
        refine ix_nat (by rw [len_rg]; omega) ?_
        have e : ((rgL 0 (m : Int)).map fun i => if i = (k : Int) then T.lst (iL (fL n (W f))) else if i = (f : Int) then T.lst (iL (fL n (W k))) else T.lst (iL (fL n (W i)))) = rowsL m n (swpI W k f) := rg_congr fun i _ _ => by
          unfold swpI
          by_cases c : i = (f : Int)
          · by_cases d : i = (k : Int)
            · have fk : (f : Int) = k := by omega
              rw [if_pos d, if_pos c, fk]
            · rw [if_neg d, if_pos c, if_pos c]
          · by_cases d : i = (k : Int)
            · rw [if_pos d, if_neg c, if_pos d]
            · rw [if_neg d, if_neg c, if_neg c, if_neg d]
        rw [e]
        have e2 : W f = swpI W k f k := by
          unfold swpI
          by_cases c : (k : Int) = f
          · rw [if_pos c, c]
          · rw [if_neg c, if_pos rfl]
        rw [e2]
        generalize swpI W k f = V at *
        walk_at "gn"
        simp only [Int.toNat_natCast]
        have p1 : 2 ^ k ≤ 2 ^ 7 := Nat.pow_le_pow_right (by decide) (by omega)
        have big : (92 * 2 ^ k - 1) + (92 * 2 ^ k - 1) ≤ 134217728 := by omega
        refine forL_range (fun j env => 0 ≤ j ∧ env = [.sh (.lst (rowsL m n A)), .sh (.int n), .ow 1 (.lst (rowsL m n fun i => if k < i ∧ i < j then crsI V k i else V i)), .sh (.int k), .sh (.int f), .em, .sh (.lst (iL (fL n (V k)))), .em, .em, .em]) (by omega) _ ⟨by omega, ?_⟩ ?_ ?_
        · have : rowsL m n V = rowsL m n fun i => if k < i ∧ i < (k : Int) + 1 then crsI V k i else V i := rg_congr fun i _ _ => by dsimp only; rw [if_neg (by omega)]
          rw [this]
        · rintro j env K2 j0 j1 ⟨_, rfl⟩ hK2
          have jj : 0 ≤ j := by omega
          have nj : ¬ ((k : Int) < j ∧ j < j) := by omega
          walk_at "gn"
          simp only [if_neg nj]
          refine lc_rng (fun i => .int (crsI V k j i)) (by omega) (fun i i0 i1 acc K3 ha hK3 => ?_) ?_
          · walk_at "gn"
            simp only [if_neg nj]
            walk_at "gn"
            refine ⟨mul_ok (qz j i jj j1 i0 i1) (qz k k (by omega) (by omega) (by omega) (by omega)) big, ?_⟩
            walk_at "gn"
            refine ⟨mul_ok (qz j k jj j1 (by omega) (by omega)) (qz k i (by omega) (by omega) i0 i1) big, ?_⟩
            walk_at "gn"
            exact hK3
          rw [fL_map]
          walk_at "gn"
          rw [rg_set jj]
          refine hK2 _ ⟨by omega, ?_⟩
          have : ((rgL 0 (m : Int)).map fun i => if i = j then T.lst (iL (fL n (crsI V k j))) else T.lst (iL (fL n (if (k : Int) < i ∧ i < j then crsI V k i else V i)))) = rowsL m n fun i => if (k : Int) < i ∧ i < j + 1 then crsI V k i else V i := rg_congr fun i _ _ => by
            dsimp only
            by_cases e : i = j
            · subst e; rw [if_pos rfl, if_pos (by omega)]
            · rw [if_neg e]
              by_cases c : (k : Int) < i ∧ i < j
              · rw [if_pos c, if_pos (by omega)]
              · rw [if_neg c, if_neg (by omega)]
          rw [this]
        · rintro env ⟨_, rfl⟩
          walk_at "gn"
          refine hK _ ⟨clLI V k, by omega, by rw [show ((k : Int) + 1).toNat = k + 1 by omega]; exact S2, ?_⟩
          have : (rowsL m n fun i => if (k : Int) < i ∧ i < (m : Int) then crsI V k i else V i) = rowsL m n (clLI V k) := rg_congr fun i _ i1 => by
            unfold clLI
            dsimp only
            by_cases c : (k : Int) < i
            · rw [if_pos c, if_pos ⟨c, i1⟩]
            · rw [if_neg c, if_neg fun z => c z.1]
          rw [this]
  · rintro env ⟨W, _, S, rfl⟩
    walk_at "gn"
    rw [Int.toNat_natCast] at S
    exact h none (KN.indep_of (S.sh.indep (Nat.le_refl _)) S.ke)
end K08

/-! PL5: comprehensions whose items are told by a property; lists of ints by a rule. -/
namespace PT
open PySem PySem.Spec PyProof.Rows L2
theorem lc_listV {α β : Type} [Inhabited β] {F : LcF} {g : α → List (Nat × Sl)} (mk : β → T) (P : α → β → Prop) {Q : List T → Prop} : ∀ (xs : List α) (acc : List T), acc.length + xs.length ≤ sizeLine → (∀ x ∈ xs, ∀ acc K, acc.length < sizeLine → (∀ y, P x y → K (acc ++ [mk y])) → F (g x) acc K) →
    (∀ ys : List β, ys.length = xs.length → (∀ (i : Nat) (x : α) (y : β), xs[i]? = some x → ys[i]? = some y → P x y) → Q (acc ++ ys.map mk)) → lcL F (xs.map g) acc Q
  | [], acc, _, _, h => by
    have := h [] rfl (fun i x t h => by simp at h)
    simpa [lcL] using this
  | x :: xs, acc, hl, hs, h => by
    show F (g x) acc fun acc' => lcL F (xs.map g) acc' Q
    refine hs x List.mem_cons_self acc _ (by simp at hl; omega) fun t ht => ?_
    refine lc_listV mk P xs (acc ++ [mk t]) (by simp at hl ⊢; omega) (fun y hy => hs y (List.mem_cons_of_mem _ hy)) fun ts h1 h2 => ?_
    rw [List.append_assoc]
    refine h (t :: ts) (by simp [h1]) fun i y u hy hu => ?_
    cases i with
    | zero =>
      have e1 : x = y := by simpa using hy
      have e2 : t = u := by simpa using hu
      subst e1 e2
      exact ht
    | succ i => exact h2 i y u (by simpa using hy) (by simpa using hu)
theorem map_of_list {β : Type} [Inhabited β] {n : Int} (mk : β → T) (ys : List β) (h : ys.length = n.toNat) : ys.map mk = (rgL 0 n).map fun j => mk (ys.getD j.toNat default) := by
  refine ext_int (by rw [List.length_map, len_rg, h]) fun i i0 i1 => ?_
  rw [List.length_map, h] at i1
  rw [rg_get i0 (by omega), List.getElem?_map, List.getD_eq_getElem?_getD]
  have : i.toNat < ys.length := by omega
  rw [List.getElem?_eq_getElem this]
  rfl
theorem lc_rngV {β : Type} [Inhabited β] {F : LcF} {n : Int} {g : Int → List (Nat × Sl)} (mk : β → T) (P : Int → β → Prop) {Q : List T → Prop} (hn : n ≤ 1000000) (hs : ∀ j, 0 ≤ j → j < n → ∀ acc K, acc.length < sizeLine → (∀ y, P j y → K (acc ++ [mk y])) → F (g j) acc K)
    (hq : ∀ f : Int → β, (∀ j, 0 ≤ j → j < n → P j (f j)) → Q ((rgL 0 n).map fun j => mk (f j))) : lcL F ((rgL 0 n).map g) [] Q := by
  refine lc_listV mk P (rgL 0 n) [] (by rw [rgL_len]; unfold sizeLine; show 0 + _ ≤ _; omega) (fun j hj => hs j (rgL_mem hj).1 (rgL_mem hj).2) fun ys hl hp => ?_
  rw [rgL_len] at hl
  have hl : ys.length = n.toNat := by omega
  rw [List.nil_append, map_of_list mk ys hl]
  refine hq _ fun j j0 j1 => hp j.toNat j _ (rgL_get j0 j1) ?_
  rw [List.getD_eq_getElem?_getD, List.getElem?_eq_getElem (by omega)]
  rfl
theorem lc_rgV {β : Type} [Inhabited β] {F : LcF} {n : Int} {h : Int → T} {g : T → List (Nat × Sl)} (mk : β → T) (P : Int → β → Prop) {Q : List T → Prop} (hn : n ≤ 1000000) (hs : ∀ j, 0 ≤ j → j < n → ∀ acc K, acc.length < sizeLine → (∀ y, P j y → K (acc ++ [mk y])) → F (g (h j)) acc K)
    (hq : ∀ f : Int → β, (∀ j, 0 ≤ j → j < n → P j (f j)) → Q ((rgL 0 n).map fun j => mk (f j))) : lcL F (((rgL 0 n).map h).map g) [] Q := by
  rw [List.map_map]
  exact lc_rngV mk P hn hs hq
theorem fL_gi (l : List Int) : fL l.length (gi l) = l := by
  refine ext_int (by rw [fL_len]; omega) fun i i0 i1 => ?_
  rw [fL_len] at i1
  rw [fL_get i0 (by omega), gi_at i0 (by omega)]
theorem gi_fL {n k : Int} {f : Int → Int} (h0 : 0 ≤ k) (h1 : k < n) : gi (fL n f) k = f k := by
  have e := gi_at (l := fL n f) h0 (by rw [fL_len]; omega)
  rw [fL_get h0 h1] at e
  exact (Option.some.inj e).symm
theorem gi_rep {N : Nat} {c k : Int} (h0 : 0 ≤ k) (h1 : k < N) : gi (List.replicate N c) k = c := by
  unfold gi
  rw [List.getD_eq_getElem?_getD, List.getElem?_replicate, if_pos (by omega)]
  rfl
theorem Dg.rep {N : Nat} {c : Int} {ds : List Int} (h : Dg (List.replicate N c) ds) : ds.length = N ∧ ∀ k : Int, 0 ≤ k → k < N → 0 ≤ PT.gi ds k ∧ PT.gi ds k < c := by
  refine ⟨by rw [h.len, List.length_replicate], fun k k0 k1 => ?_⟩
  have := h.gi k k0 (by rw [List.length_replicate]; exact k1)
  rw [gi_rep k0 k1] at this
  exact this
/-- digits in blocks: of the r-th of the j-th block -/
theorem Dg.flat {xs : List Int} {N : Nat} {ds : List Int} (h : Dg (List.replicate N xs).flatten ds) : ds.length = N * xs.length ∧ ∀ j r k : Int, 0 ≤ j → j < N → 0 ≤ r → r < xs.length → k = xs.length * j + r → 0 ≤ PT.gi ds k ∧ PT.gi ds k < PT.gi xs r := by
  refine ⟨by rw [h.len, flat_len], fun j r k j0 j1 r0 r1 e => ?_⟩
  subst e
  have lt : (xs.length : Int) * j + r < ((N * xs.length : Nat) : Int) := by
    have h1 : (xs.length : Int) * (j + 1) ≤ xs.length * N := Int.mul_le_mul_of_nonneg_left (by omega) (by omega)
    have h2 : ((N * xs.length : Nat) : Int) = (xs.length : Int) * N := by rw [Int.natCast_mul, Int.mul_comm]
    rw [h2]
    rw [Int.mul_add, Int.mul_one] at h1
    omega
  have := h.gi (xs.length * j + r) (Int.add_nonneg (Int.mul_nonneg (by omega) j0) r0) (by rw [flat_len]; exact lt)
  rw [flat_gi xs j0 (by omega) r0 r1 rfl] at this
  exact this
theorem cut_fL {l : List Int} {a n : Int} (h0 : 0 ≤ a) (hn : 0 ≤ n) (h : a + n ≤ l.length) : cutT (iL l) (some a) (some (a + n)) = iL (fL n fun i => gi l (a + i)) := by
  rw [cut_iL]
  congr 1
  have e : cutT l (some a) (some (a + n)) = (l.drop a.toNat).take n.toNat := by
    unfold cutT HT.sIx
    simp only
    rw [if_neg (by omega), if_neg (by omega)]
    congr 1
    · omega
    · congr 1; omega
  rw [e]
  refine ext_int (by rw [fL_len, List.length_take, List.length_drop]; omega) fun i i0 i1 => ?_
  rw [List.length_take, List.length_drop] at i1
  rw [fL_get i0 (by omega), List.getElem?_take, if_pos (by omega), List.getElem?_drop, ← gi_at (by omega) (by omega)]
  congr 1
  omega
theorem set_nat {m : Int} {f : Int → T} {j : Nat} {v : T} : ((rgL 0 m).map f).set j v = (rgL 0 m).map fun i => if i = (j : Int) then v else f i := by
  have := rg_set (n := m) (k := (j : Int)) (f := f) (v := v) (by omega)
  rw [Int.toNat_natCast] at this
  exact this
theorem ix_nat {n k : Nat} {R : Nat → Prop} (h : k < n) (q : R k) : ∃ x, ixN n (k : Int) = some x ∧ R x := ⟨k, by have := ixN_at (n := n) (k := (k : Int)) (by omega) (by omega); rw [Int.toNat_natCast] at this; exact this, q⟩
theorem zip_fL {i j : Nat} {oa ob : Og} {n : Int} {f g : Int → Int} : zipS i j oa ob (iL (fL n f)) (iL (fL n g)) = (rgL 0 n).map fun x => [(i, slOf (.int (f x)) oa), (j, slOf (.int (g x)) ob)] := by
  rw [iL_fL, iL_fL, zipS_map]
theorem rep0 (n : Int) : (List.replicate n.toNat [T.int 0]).flatten = iL (fL n fun _ => 0) := by
  rw [iL_fL]
  have : ∀ k : Nat, (List.replicate k [T.int 0]).flatten = (List.range k).map fun _ => T.int 0 := by
    intro k
    induction k with
    | zero => rfl
    | succ k ih => rw [List.replicate_succ', List.flatten_append, ih, List.range_succ, List.map_append]; rfl
  rw [this, rgL_eq, List.map_map, Int.sub_zero]
  rfl
end PT
namespace PT
open PySem PySem.Spec PyProof.Rows L2
/-- over a list of one's own whose items are one's own -/
theorem forO_inv {i j len : Nat} {f : PT.Env → (PT.Env → Prop) → Prop} {k : PT.Env → Prop} (I : Nat → PT.Env → Prop) (own : ∀ q env, I q env → ∃ d xs, env.get j = .ow (d + 2) (.lst xs) ∧ xs.length = len)
    (step : ∀ q env K, q < len → I q env → (∀ env', I (q + 1) env' → K env') → f (env.store i (.al j [q])) K) (fin : ∀ env, I len env → k env) : ∀ (n : Nat) (env : PT.Env), n ≤ len → I (len - n) env → forO i j len f n env k
  | 0, env, _, h => by
    obtain ⟨d, xs, e, hl⟩ := own _ _ h
    unfold forO
    rw [e]
    exact ⟨hl, fin env h⟩
  | n + 1, env, hn, h => by
    obtain ⟨d, xs, e, hl⟩ := own _ _ h
    unfold forO
    rw [e]
    refine ⟨hl, step _ env _ (by omega) h fun env' h' => forO_inv I own step fin n env' (by omega) ?_⟩
    rw [show len - (n + 1) + 1 = len - n by omega] at h'
    exact h'
theorem st_forO {Γ : Gam} {rd : Nat → Nat} {i j d : Nat} {b r : TSs} {env : PT.Env} {D : DT} {xs : List T} (I : Nat → PT.Env → Prop) (e : env.get j = .ow d (.lst xs)) (h0 : I 0 env) (own : ∀ q env, I q env → ∃ d xs', env.get j = .ow (d + 2) (.lst xs') ∧ xs'.length = xs.length)
    (step : ∀ q env K, q < xs.length → I q env → (∀ env', I (q + 1) env' → K env') → wpSs Γ rd b (env.store i (.al j [q])) { nx := K, rt := D.rt, bk := fun env' => wpSs Γ rd r env' D, ct := K }) (fin : ∀ env, I xs.length env → wpSs Γ rd r env D) : wpSs Γ rd (.cons (.forO i j b) r) env D := by
  refine st_cons ?_
  unfold wpS
  rw [e]
  refine forO_inv I own step fin xs.length env (Nat.le_refl _) ?_
  rw [Nat.sub_self]
  exact h0
end PT

namespace K08
open PySem PySem.Spec PyProof.Rows L2 PT
local macro_rules | `(tactic| walk_at "wp") => `(tactic| simp only [↓PT.q_callK, PT.q_pk1, PT.q_pk10, PT.q_pk01, PT.wpE, PT.wpEs, PT.wpO, PT.wpB, PT.wpC, PT.wpI, PT.wpIS, PT.q_var, PT.q_vsh, PT.q_vow, PT.q_vbr, PT.q_val, PT.Env.get, PT.takes, PT.taksO, PT.taksF, PT.takF, PT.entO, PT.keeps, PT.bltT, PT.flatIf, PT.bwT, PT.wpFrz, PT.wpRetV, PT.wpL, PT.lvT, PT.nxtP, PT.wpMv, PT.Env.store, PT.Env.put, PT.Env.puts, PT.Env.wipe, PT.Env.mut, PT.Sl.unroot, PT.Sl.muted, PT.q_og0, PT.q_ogS, q_seq, q_idx, q_len, q_lst, q_tup, q_isin, q_add, q_sub, q_mul, q_fdiv, q_fdivN, q_fdivW, q_mod, q_pow, q_addL, q_mulL, q_addT, q_lt, q_le, q_gt, q_ge, q_eq, q_ne, q_eqLL, q_neLL, q_eqTT, q_neTT, q_eqLT, q_neLT, q_eqTL, q_neTL, q_eqB, q_neB, q_isN, q_notN, q_in_L, q_in_T, q_notInL, q_notInT, q_idxL, q_idxT, q_idxS, q_slc, q_slcT, q_fst, q_end, q_neg, q_tru, q_asI, q_asIs0, q_asIs1, q_lenL, q_lenT, q_lenS, q_abs, q_maxI, q_minI, q_maxL, q_maxT, q_minL, q_minT, q_sumL, q_sumT, q_all, q_any, q_intI, q_intB, q_tupL, q_tupT, q_lstL, q_lstT, q_lstS, q_rng1, q_rng2, q_seqL, q_seqT, q_seqS, q_gcd, q_isiI, q_isiB, q_isiL, q_isiT, q_isiN, q_isiS, q_unp, q_take0, q_takeF, q_takeI, q_keep0, q_keepF, q_sl0, q_slF, q_slB, q_it0, q_itF, q_itB, q_sh0, q_sh1, q_sh2, q_shF, q_frz0, q_frzF, q_asgN, q_asgF, q_rd0, q_rdF, PT.q_put0, PT.It.slots, List.map_cons, List.map_nil, List.append_nil, List.nil_append, List.cons_append, List.length_cons, List.length_nil, List.length_map, List.zip_cons_cons, List.zip_nil_left, PT.rgL_len, PT.fL_len, Int.sub_zero, List.any_cons, List.any_nil, PT.kdIs, Bool.or_false, Bool.false_or, Bool.or_true, Bool.and_true, Bool.true_and, Bool.not_true, Bool.not_false, Bool.not_eq_true', decide_eq_true_eq, decide_eq_false_iff_not, Bool.false_eq_true, Bool.true_eq_false, reduceCtorEq, if_true, if_false, ite_not, true_and, and_true, eq_self, len_iL, decide_true, decide_false, Nat.reduceAdd, Nat.reduceSub, reduceIte, Nat.reduceLT, Nat.reduceEqDiff, ne_eq, not_false_eq_true, not_true_eq_false, PT.T.isNon, true_or, false_or, Nat.le_refl, Nat.lt_irrefl, Nat.zero_lt_succ, Nat.not_lt_zero, PT.T.flat, List.all_cons, List.all_nil, List.replicate, PT.q_at0, Option.some.injEq, T.lst.injEq, exists_and_left, exists_eq_left, exists_eq_left', rd0, rd1, rd2, rd3, rd4, rd5, rd6, rd7, rd8, rd9, rd10, rd11, rd12, rd13, rd14, rd15, rd16, rd17, rd18, rd19, rd20, rd21, rd22, rd23])
local macro_rules | `(tactic| walk_at "st") => `(tactic| with_reducible first | refine st_asg ?_ | refine st_own ?_ | refine st_frz ?_ | refine st_fgt ?_ | refine st_fst ?_ | refine st_ret ?_ | refine st_retV ?_ | refine st_app ?_ | refine st_sto ?_ | refine st_appMv ?_ | refine st_ali ?_ | refine st_unp ?_ | refine st_forD ?_ | refine st_retN ?_ | refine st_brk ?_ | refine st_cnt ?_ | refine st_pas ?_ | refine st_ex ?_ | refine st_ite ?_ | refine st_for ?_ | refine st_nil ?_)
local macro_rules | `(tactic| walk_at "ob") => `(tactic| first | exact trivial | assumption | (with_reducible rfl) | omega | decide | exact mul_okL (by omega) (by omega) | exact mul_okR (by omega) (by omega) | exact mul_ok (by assumption) (by assumption) (by decide) | (unfold sizeLine; omega))
local macro_rules | `(tactic| walk_at "cj") => `(tactic| with_reducible first | refine And.intro (by walk_at "ob") ?_ | refine x_l0 ?_ | refine x_l1 ?_ | refine x_l2 ?_ | refine x_l3 ?_ | refine x_fL (by omega) (by omega) ?_ | refine x_rg (by omega) (by omega) ?_ | refine x_lastI (by omega) ?_ | refine x_last (by omega) ?_ | refine x_idx (by omega) (by omega) ?_ | refine x_ix (by omega) (by omega) ?_)
local macro_rules | `(tactic| walk_at "sn") => `(tactic| with_reducible first | refine st_asg ?_ | refine st_own ?_ | refine st_frz ?_ | refine st_fgt ?_ | refine st_fst ?_ | refine st_ret ?_ | refine st_retV ?_ | refine st_app ?_ | refine st_sto ?_ | refine st_appMv ?_ | refine st_ali ?_ | refine st_unp ?_ | refine st_forD ?_ | refine st_retN ?_ | refine st_brk ?_ | refine st_cnt ?_ | refine st_pas ?_ | refine st_ex ?_ | refine st_for ?_ | refine st_nil ?_)
local macro_rules | `(tactic| walk_at "gn") => `(tactic| (repeat (first | walk_at "cj" | walk_at "sn" | walk_at "wp")))
local macro_rules | `(tactic| walk_at "go") => `(tactic| (repeat (first | walk_at "cj" | walk_at "st" | walk_at "wp")))

theorem c_add {t : Nat} {n c : Int} {f g : Int → Int} {Q : T → Prop} (hn : 0 ≤ n ∧ n ≤ 100) (hc : -(2 ^ 64) < c ∧ c < 2 ^ 64) (h : Q (.lst (iL (fL n fun k => f k + c * g k)))) : Cl (gam tbl (t + 1) 13 [.lst (iL (fL n f)), .lst (iL (fL n g)), .int c] Q) := by
  refine enter rfl rfl rfl ?_
  simp only [d13, entry]
  walk_at "gn"
  rw [Int.toNat_of_nonneg hn.1]
  refine lc_rng (fun k => .int (f k + c * g k)) (by omega) (fun i i0 i1 acc K ha hK => ?_) ?_
  · walk_at "gn"
    exact hK
  rw [fL_map]
  walk_at "gn"
  exact h
def SzM (E : Nat) (m n : Int) (A : Int → Int → Int) : Prop := ∀ i j, 0 ≤ i → i < m → 0 ≤ j → j < n → Sz E (A i j)
abbrev menuL : List Int := [0, 0, 1, -1, 2, -3, 5, 0, 1]
def P14a (ns : List Int) (dr sc : List Int) (n m fo : Int) (fr : Bool) (env : PT.Env) : Prop := ∃ s : Int → Int, (∀ k : Int, 0 ≤ k → k < 56 → Sz 20 (s k)) ∧ env = [.sh (.scr ns), .sh (.int n), .sh (.int m), .sh (.int fo), .sh (.bl fr), .sh (.lst (iL dr)), .sh (.lst (iL sc)), .sh (.lst (iL menuL)), .sh (.lst (iL (fL 56 s))), .em, .em, .em, .em, .em, .em]
def P14b (ns : List Int) (dr sc : List Int) (s : Int → Int) (E : Nat) (n m fo : Int) (fr : Bool) (env : PT.Env) : Prop := ∃ A : Int → Int → Int, SzM E m n A ∧ env = [.sh (.scr ns), .sh (.int n), .sh (.int m), .sh (.int fo), .sh (.bl fr), .sh (.lst (iL dr)), .sh (.lst (iL sc)), .sh (.lst (iL menuL)), .sh (.lst (iL (fL 56 s))), .ow 2 (.lst (rowsL m n A)), .em, .em, .em, .em, .em]
theorem c_sml {t : Nat} {ns : List Int} {n m fo : Int} {fr : Bool} {Q : T → Prop} (hn : 1 ≤ n ∧ n ≤ 7) (hm : 0 ≤ m ∧ m ≤ 8) (h : ∀ A, SzM 91 m n A → Q (.lst (rowsL m n A))) : Cl (gam tbl (t + 2) 14 [.scr ns, .int n, .int m, .int fo, .bl fr] Q) := by
  refine enter rfl rfl rfl ?_
  simp only [d14, entry]
  walk_at "gn"
  refine c_cell (n := t) (by decide) (by decide) ?_
  walk_at "gn"
  refine c_digE (n := t) (sizes := List.replicate 56 2000001) rfl (by decide) (by decide) fun dr hdr => ?_
  obtain ⟨l1, b1⟩ := hdr.rep
  walk_at "gn"
  refine c_cell (n := t) (by decide) (by decide) ?_
  walk_at "gn"
  refine c_digE (n := t) (sizes := (List.replicate 8 [4, 2]).flatten) rfl (by decide) (by decide) fun sc hsc => ?_
  obtain ⟨l2, b2⟩ := hsc.flat
  have l2 : sc.length = 16 := l2
  have b1 : ∀ k : Int, 0 ≤ k → k < 56 → 0 ≤ gi dr k ∧ gi dr k < 2000001 := b1
  walk_at "gn"
  refine lc_rngV (β := Int) T.int (fun _ y => Sz 20 y) (by decide) (fun j j0 j1 acc K ha hK => ?_) fun s hs => ?_
  · walk_at "gn"
    have := mod_ok (i := gi dr j) (j := 9) (by decide)
    refine pick_of menuL _ _ this.1 this.2 fun y hy => ?_
    walk_at "gn"
    refine hK y ?_
    have : ∀ y ∈ menuL, y.natAbs < 2 ^ 20 := by decide
    exact this y hy
  rw [fL_map]
  refine st_mid_ite (P14a ns dr sc n m fo fr) (gam_mono _ _) ?_ ?_
  · walk_at "gn"
    cases fr with
    | true =>
      walk_at "gn"
      rw [← fL_gi dr, l1]
      refine lc_fL (fun j => .int (gi dr j - 1000000)) (by decide) (fun j j0 j1 acc K ha hK => ?_) ?_
      · walk_at "gn"
        exact hK
      rw [fL_map]
      walk_at "gn"
      refine ⟨fun j => gi dr j - 1000000, fun k k0 k1 => ?_, rfl⟩
      have := b1 k k0 k1
      have e1 : -(2 ^ 20) < gi dr k - 1000000 := by omega
      have e2 : gi dr k - 1000000 < 2 ^ 20 := by omega
      exact sz_of e1 e2
    | false =>
      walk_at "gn"
      exact ⟨s, hs, rfl⟩
  rintro env ⟨s, hs, rfl⟩
  walk_at "gn"
  refine lc_rngV (β := Int → Int) (fun f => .lst (iL (fL n f))) (fun _ f => ∀ j, 0 ≤ j → j < n → Sz 20 (f j)) (by omega) (fun j j0 j1 acc K ha hK => ?_) fun A hA => ?_
  · walk_at "gn"
    have e : cutT (iL (fL 56 s)) (some (7 * j)) (some (7 * j + n)) = iL (fL n fun i => s (7 * j + i)) := by
      rw [cut_fL (by omega) (by omega) (by rw [fL_len]; omega)]
      exact congrArg iL (fL_congr fun i i0 i1 => gi_fL (by omega) (by omega))
    rw [e]
    walk_at "gn"
    exact hK _ fun i i0 i1 => hs _ (by omega) (by omega)
  walk_at "gn"
  refine st_mid_ite (P14b ns dr sc s 21 n m fo fr) (gam_mono _ _) ?_ ?_
  · have hA : SzM 20 m n A := fun i j i0 i1 j0 j1 => hA i i0 i1 j j0 j1
    have stay : P14b ns dr sc s 21 n m fo fr [.sh (.scr ns), .sh (.int n), .sh (.int m), .sh (.int fo), .sh (.bl fr), .sh (.lst (iL dr)), .sh (.lst (iL sc)), .sh (.lst (iL menuL)), .sh (.lst (iL (fL 56 s))), .ow 2 (.lst (rowsL m n A)), .em, .em, .em, .em, .em] := ⟨A, fun i j i0 i1 j0 j1 => (hA i j i0 i1 j0 j1).mono (by decide), rfl⟩
    walk_at "gn"
    refine iteE (fun h1 => ?_) fun h1 => ?_
    · walk_at "gn"
      refine iteE (fun h2 => ?_) fun h2 => ?_
      · walk_at "gn"
        refine c_add (t := t) (by omega) (by decide) ?_
        refine ⟨by unfold T.noL1; exact noLs_iL _, ?_⟩
        walk_at "gn"
        simp only [rg_set (show 0 ≤ m - 1 by omega)]
        refine ⟨fun i => if i = m - 1 then fun k => A 0 k + 1 * A 1 k else A i, fun i j i0 i1 j0 j1 => ?_, ?_⟩
        · dsimp only
          split
          · show Sz 21 (A 0 j + 1 * A 1 j)
            rw [Int.one_mul]
            exact (hA 0 j (by omega) (by omega) j0 j1).add (hA 1 j (by omega) (by omega) j0 j1)
          · exact (hA i j i0 i1 j0 j1).mono (by decide)
        · have : ((rgL 0 m).map fun j => if j = m - 1 then T.lst (iL (fL n fun k => A 0 k + 1 * A 1 k)) else T.lst (iL (fL n (A j)))) = rowsL m n fun i => if i = m - 1 then fun k => A 0 k + 1 * A 1 k else A i := rg_congr fun i _ _ => by
            dsimp only
            split <;> rfl
          rw [this]
          rfl
      · walk_at "gn"
        exact stay
    · walk_at "gn"
      refine iteE (fun h2 => absurd h2 h1) fun h2 => ?_
      walk_at "gn"
      exact stay
  rintro env ⟨A, hA, rfl⟩
  refine st_mid_ite (P14b ns dr sc s 23 n m fo fr) (gam_mono _ _) ?_ ?_
  · have stay : P14b ns dr sc s 23 n m fo fr [.sh (.scr ns), .sh (.int n), .sh (.int m), .sh (.int fo), .sh (.bl fr), .sh (.lst (iL dr)), .sh (.lst (iL sc)), .sh (.lst (iL menuL)), .sh (.lst (iL (fL 56 s))), .ow 2 (.lst (rowsL m n A)), .em, .em, .em, .em, .em] := ⟨A, fun i j i0 i1 j0 j1 => (hA i j i0 i1 j0 j1).mono (by decide), rfl⟩
    have key : 1 < n → wpSs (gam tbl (t + 1)) (rdT tbl) (.cons (.forO 11 9 (.cons (.sto 11 .nil (.bin .fdiv (.var 1) (.int 2)) (.bin .add (.bin .mul (.int 2) (.idx (.var 11) (.int 0))) (.bin .mul (.blt .int (.cons (.cmp .eq (.var 3) (.int 3)) .nil)) (.idx (.var 11) (.bin .fdiv (.var 1) (.int 4)))))) (.cons (.fgt [11]) .nil))) .nil)
        [.sh (.scr ns), .sh (.int n), .sh (.int m), .sh (.int fo), .sh (.bl fr), .sh (.lst (iL dr)), .sh (.lst (iL sc)), .sh (.lst (iL menuL)), .sh (.lst (iL (fL 56 s))), .ow 2 (.lst (rowsL m n A)), .em, .em, .em, .em, .em]
        { nx := P14b ns dr sc s 23 n m fo fr, rt := fun t o => Q t, bk := fun x => False, ct := fun x => False } := fun n1 => by
      refine st_forO (xs := rowsL m n A) (fun q env => ∃ B : Int → Int → Int, (∀ i j, 0 ≤ i → i < m → 0 ≤ j → j < n → Sz (if i < q then 23 else 21) (B i j)) ∧ env = [.sh (.scr ns), .sh (.int n), .sh (.int m), .sh (.int fo), .sh (.bl fr), .sh (.lst (iL dr)), .sh (.lst (iL sc)), .sh (.lst (iL menuL)), .sh (.lst (iL (fL 56 s))), .ow 2 (.lst (rowsL m n B)), .em, .em, .em, .em, .em]) rfl ⟨A, fun i j i0 i1 j0 j1 => ?_, rfl⟩ ?_ ?_ ?_
      · rw [if_neg (by omega)]; exact hA i j i0 i1 j0 j1
      · rintro q env ⟨B, hB, rfl⟩
        exact ⟨0, rowsL m n B, rfl, by rw [len_rg, len_rg]⟩
      · rintro q env K hq ⟨B, hB, rfl⟩ hK
        rw [len_rg] at hq
        have at_ : T.at (.lst (rowsL m n B)) [q] = some (.lst (iL (fL n (B q)))) := at1 (by
          have := rg_get (f := fun i => T.lst (iL (fL n (B i)))) (n := m) (k := (q : Int)) (by omega) (by omega)
          rw [Int.toNat_natCast] at this
          exact this)
        walk_at "gn"
        refine ⟨_, at_, ?_⟩
        walk_at "gn"
        refine ⟨_, at_, ?_⟩
        have b0 : Sz 21 (B q 0) := by have := hB q 0 (by omega) (by omega) (by omega) (by omega); rw [if_neg (by omega)] at this; exact this
        have b4 : Sz 21 (B q (n / 4)) := by have := hB q (n / 4) (by omega) (by omega) (by omega) (by omega); rw [if_neg (by omega)] at this; exact this
        walk_at "gn"
        refine ⟨_, at_, (n / 2).toNat, ixN_at (by omega) (by rw [len_iL, fL_len]; omega), ?_⟩
        have gq : (rowsL m n B)[q]? = some (.lst (iL (fL n (B q)))) := by
          have := rg_get (f := fun i => T.lst (iL (fL n (B i)))) (n := m) (k := (q : Int)) (by omega) (by omega)
          rw [Int.toNat_natCast] at this
          exact this
        rw [put1 gq, fL_set (by omega), PT.set_nat]
        walk_at "gn"
        refine hK _ ⟨fun i => if i = q then fun j => if j = n / 2 then 2 * B q 0 + (if fo = 3 then 1 else 0) * B q (n / 4) else B q j else B i, fun i j i0 i1 j0 j1 => ?_, ?_⟩
        · dsimp only
          by_cases e : i = q
          · rw [if_pos e, if_pos (by omega)]
            by_cases e2 : j = n / 2
            · rw [if_pos e2]
              have c1 : -(2 ^ 21) < B q 0 ∧ B q 0 < 2 ^ 21 := by unfold Sz at b0; omega
              have c2 : -(2 ^ 21) < B q (n / 4) ∧ B q (n / 4) < 2 ^ 21 := by unfold Sz at b4; omega
              refine sz_of ?_ ?_ <;> split <;> omega
            · rw [if_neg e2]
              have := hB q j (by omega) (by omega) j0 j1
              rw [if_neg (by omega)] at this
              exact this.mono (by decide)
          · rw [if_neg e]
            have := hB i j i0 i1 j0 j1
            by_cases c : i < q
            · rw [if_pos c] at this; rw [if_pos (by omega)]; exact this
            · rw [if_neg c] at this; rw [if_neg (by omega)]; exact this
        · have : ((rgL 0 m).map fun i => if i = (q : Int) then T.lst (iL (fL n fun j => if j = n / 2 then 2 * B q 0 + (if fo = 3 then 1 else 0) * B q (n / 4) else B q j)) else T.lst (iL (fL n (B i)))) = rowsL m n fun i => if i = q then fun j => if j = n / 2 then 2 * B q 0 + (if fo = 3 then 1 else 0) * B q (n / 4) else B q j else B i := rg_congr fun i _ _ => by
            dsimp only
            split <;> rfl
          rw [this]
          rfl
      · rintro env ⟨B, hB, rfl⟩
        rw [len_rg] at hB
        walk_at "gn"
        exact ⟨B, fun i j i0 i1 j0 j1 => by have := hB i j i0 i1 j0 j1; rw [if_pos (by omega)] at this; exact this, rfl⟩
    walk_at "gn"
    repeat' (first | exact key (by assumption) | exact stay | (exfalso; omega) | refine iteE (fun _ => ?_) fun _ => ?_)
  rintro env ⟨A, hA, rfl⟩
  walk_at "gn"
  refine forL_range (fun q env => 0 ≤ q ∧ ∃ B : Int → Int → Int, (∀ i j, 0 ≤ i → i < m → 0 ≤ j → j < n → Sz (if i < q then 91 else 23) (B i j)) ∧ env = [.sh (.scr ns), .sh (.int n), .sh (.int m), .sh (.int fo), .sh (.bl fr), .sh (.lst (iL dr)), .sh (.lst (iL sc)), .sh (.lst (iL menuL)), .sh (.lst (iL (fL 56 s))), .ow 2 (.lst (rowsL m n B)), .em, .em, .em, .em, .em]) hm.1 _ ⟨by decide, A, fun i j i0 i1 j0 j1 => by rw [if_neg (by omega)]; exact hA i j i0 i1 j0 j1, rfl⟩ ?_ ?_
  · rintro q env K q0 q1 ⟨_, B, hB, rfl⟩ hK
    have b0 := b2 q 0 (2 * q) q0 (by omega) (by decide) (by decide) (by show 2 * q = (2 : Int) * q + 0; omega)
    have b1' := b2 q 1 (2 * q + 1) q0 (by omega) (by decide) (by decide) (by show 2 * q + 1 = (2 : Int) * q + 1; omega)
    have b0 : 0 ≤ gi sc (2 * q) ∧ gi sc (2 * q) < 4 := b0
    have b1' : 0 ≤ gi sc (2 * q + 1) ∧ gi sc (2 * q + 1) < 2 := b1'
    walk_at "gn"
    refine pick_of [1, 6, 35, 10 ^ 20 + 39] _ _ b0.1 b0.2 fun x hx => ?_
    have hx : Sz 67 x ∧ 0 < x := by
      have : ∀ x ∈ ([1, 6, 35, 10 ^ 20 + 39] : List Int), x.natAbs < 2 ^ 67 ∧ 0 < x := by decide
      exact this x hx
    walk_at "gn"
    have sx : Sz 67 (x * (1 - 2 * gi sc (2 * q + 1))) := by
      have e : 1 - 2 * gi sc (2 * q + 1) = 1 ∨ 1 - 2 * gi sc (2 * q + 1) = -1 := by omega
      rcases e with e | e
      · rw [e, Int.mul_one]; exact hx.1
      · rw [e, Int.mul_neg, Int.mul_one]; exact hx.1.neg
    generalize x * (1 - 2 * gi sc (2 * q + 1)) = y at sx
    have zq : ∀ j, 0 ≤ j → j < n → Sz 23 (B q j) := fun j j0 j1 => by have := hB q j q0 q1 j0 j1; rw [if_neg (by omega)] at this; exact this
    refine lc_fL (fun j => .int (B q j * y)) (by omega) (fun j j0 j1 acc K2 ha hK2 => ?_) ?_
    · walk_at "gn"
      refine ⟨mul_ok (zq j j0 j1) sx (by decide), ?_⟩
      walk_at "gn"
      exact hK2
    rw [fL_map]
    refine ⟨q.toNat, ixN_at q0 (by omega), ?_⟩
    walk_at "gn"
    simp only [rg_set q0]
    refine hK _ ⟨by omega, fun i => if i = q then fun j => B q j * y else B i, fun i j i0 i1 j0 j1 => ?_, ?_⟩
    · dsimp only
      by_cases e : i = q
      · rw [if_pos e, if_pos (by omega)]
        exact ((zq j j0 j1).mul sx).mono (by decide)
      · rw [if_neg e]
        have := hB i j i0 i1 j0 j1
        by_cases c : i < q
        · rw [if_pos c] at this; rw [if_pos (by omega)]; exact this
        · rw [if_neg c] at this; rw [if_neg (by omega)]; exact this
    · have : ((rgL 0 m).map fun i => if i = q then T.lst (iL (fL n fun j => B q j * y)) else T.lst (iL (fL n (B i)))) = rowsL m n fun i => if i = q then fun j => B q j * y else B i := rg_congr fun i _ _ => by
        dsimp only
        split <;> rfl
      rw [this]
      rfl
  · rintro env ⟨_, B, hB, rfl⟩
    walk_at "gn"
    exact h B fun i j i0 i1 j0 j1 => by have := hB i j i0 i1 j0 j1; rw [if_pos (by omega)] at this; exact this
end K08

namespace K08
open PySem PySem.Spec PyProof.Rows L2 PT
local macro_rules | `(tactic| walk_at "wp") => `(tactic| simp only [↓PT.q_callK, PT.q_pk1, PT.q_pk10, PT.q_pk01, PT.wpE, PT.wpEs, PT.wpO, PT.wpB, PT.wpC, PT.wpI, PT.wpIS, PT.q_var, PT.q_vsh, PT.q_vow, PT.q_vbr, PT.q_val, PT.Env.get, PT.takes, PT.taksO, PT.taksF, PT.takF, PT.entO, PT.keeps, PT.bltT, PT.flatIf, PT.bwT, PT.wpFrz, PT.wpRetV, PT.wpL, PT.lvT, PT.nxtP, PT.wpMv, PT.Env.store, PT.Env.put, PT.Env.puts, PT.Env.wipe, PT.Env.mut, PT.Sl.unroot, PT.Sl.muted, PT.q_og0, PT.q_ogS, q_seq, q_idx, q_len, q_lst, q_tup, q_isin, q_add, q_sub, q_mul, q_fdiv, q_fdivN, q_fdivW, q_mod, q_pow, q_addL, q_mulL, q_addT, q_lt, q_le, q_gt, q_ge, q_eq, q_ne, q_eqLL, q_neLL, q_eqTT, q_neTT, q_eqLT, q_neLT, q_eqTL, q_neTL, q_eqB, q_neB, q_isN, q_notN, q_in_L, q_in_T, q_notInL, q_notInT, q_idxL, q_idxT, q_idxS, q_slc, q_slcT, q_fst, q_end, q_neg, q_tru, q_asI, q_asIs0, q_asIs1, q_lenL, q_lenT, q_lenS, q_abs, q_maxI, q_minI, q_maxL, q_maxT, q_minL, q_minT, q_sumL, q_sumT, q_all, q_any, q_intI, q_intB, q_tupL, q_tupT, q_lstL, q_lstT, q_lstS, q_rng1, q_rng2, q_seqL, q_seqT, q_seqS, q_gcd, q_isiI, q_isiB, q_isiL, q_isiT, q_isiN, q_isiS, q_unp, q_take0, q_takeF, q_takeI, q_keep0, q_keepF, q_sl0, q_slF, q_slB, q_it0, q_itF, q_itB, q_sh0, q_sh1, q_sh2, q_shF, q_frz0, q_frzF, q_asgN, q_asgF, q_rd0, q_rdF, PT.q_put0, PT.It.slots, List.map_cons, List.map_nil, List.append_nil, List.nil_append, List.cons_append, List.length_cons, List.length_nil, List.length_map, List.zip_cons_cons, List.zip_nil_left, PT.rgL_len, PT.fL_len, Int.sub_zero, List.any_cons, List.any_nil, PT.kdIs, Bool.or_false, Bool.false_or, Bool.or_true, Bool.and_true, Bool.true_and, Bool.not_true, Bool.not_false, Bool.not_eq_true', decide_eq_true_eq, decide_eq_false_iff_not, Bool.false_eq_true, Bool.true_eq_false, reduceCtorEq, if_true, if_false, ite_not, true_and, and_true, eq_self, len_iL, decide_true, decide_false, Nat.reduceAdd, Nat.reduceSub, reduceIte, Nat.reduceLT, Nat.reduceEqDiff, ne_eq, not_false_eq_true, not_true_eq_false, PT.T.isNon, true_or, false_or, Nat.le_refl, Nat.lt_irrefl, Nat.zero_lt_succ, Nat.not_lt_zero, PT.T.flat, List.all_cons, List.all_nil, List.replicate, PT.q_at0, Option.some.injEq, T.lst.injEq, exists_and_left, exists_eq_left, exists_eq_left', rd0, rd1, rd2, rd3, rd4, rd5, rd6, rd7, rd8, rd9, rd10, rd11, rd12, rd13, rd14, rd15, rd16, rd17, rd18, rd19, rd20, rd21, rd22, rd23])
local macro_rules | `(tactic| walk_at "st") => `(tactic| with_reducible first | refine st_asg ?_ | refine st_own ?_ | refine st_frz ?_ | refine st_fgt ?_ | refine st_fst ?_ | refine st_ret ?_ | refine st_retV ?_ | refine st_app ?_ | refine st_sto ?_ | refine st_appMv ?_ | refine st_ali ?_ | refine st_unp ?_ | refine st_forD ?_ | refine st_retN ?_ | refine st_brk ?_ | refine st_cnt ?_ | refine st_pas ?_ | refine st_ex ?_ | refine st_ite ?_ | refine st_for ?_ | refine st_nil ?_)
local macro_rules | `(tactic| walk_at "ob") => `(tactic| first | exact trivial | assumption | (with_reducible rfl) | omega | decide | exact mul_okL (by omega) (by omega) | exact mul_okR (by omega) (by omega) | exact mul_ok (by assumption) (by assumption) (by decide) | (unfold sizeLine; omega))
local macro_rules | `(tactic| walk_at "cj") => `(tactic| with_reducible first | refine And.intro (by walk_at "ob") ?_ | refine x_l0 ?_ | refine x_l1 ?_ | refine x_l2 ?_ | refine x_l3 ?_ | refine x_fL (by omega) (by omega) ?_ | refine x_rg (by omega) (by omega) ?_ | refine x_lastI (by omega) ?_ | refine x_last (by omega) ?_ | refine x_idx (by omega) (by omega) ?_ | refine x_ix (by omega) (by omega) ?_)
local macro_rules | `(tactic| walk_at "sn") => `(tactic| with_reducible first | refine st_asg ?_ | refine st_own ?_ | refine st_frz ?_ | refine st_fgt ?_ | refine st_fst ?_ | refine st_ret ?_ | refine st_retV ?_ | refine st_app ?_ | refine st_sto ?_ | refine st_appMv ?_ | refine st_ali ?_ | refine st_unp ?_ | refine st_forD ?_ | refine st_retN ?_ | refine st_brk ?_ | refine st_cnt ?_ | refine st_pas ?_ | refine st_ex ?_ | refine st_for ?_ | refine st_nil ?_)
local macro_rules | `(tactic| walk_at "gn") => `(tactic| (repeat (first | walk_at "cj" | walk_at "sn" | walk_at "wp")))
local macro_rules | `(tactic| walk_at "go") => `(tactic| (repeat (first | walk_at "cj" | walk_at "st" | walk_at "wp")))

theorem c_whole {t : Nat} {x : Int} {Q : T → Prop} (h : Q (.bl true)) : Cl (gam tbl (t + 1) 7 [.int x] Q) := ⟨whole_spec (fun _ _ _ z => by cases z) h, trivial⟩
theorem pr_le {e : Nat} : ∀ {m : Nat} {f : Nat → Nat}, (∀ c, c < m → f c ≤ 2 ^ e) → KN.pr m f ≤ 2 ^ (m * e)
  | 0, f, _ => by rw [Nat.zero_mul]; exact Nat.le_refl 1
  | m + 1, f, h => by
    have := pr_le (m := m) (f := fun c => f (c + 1)) fun c hc => h (c + 1) (by omega)
    show f 0 * KN.pr m _ ≤ _
    rw [Nat.add_mul, Nat.one_mul, Nat.add_comm, Nat.pow_add]
    exact Nat.mul_le_mul (h 0 (by omega)) this
theorem suA_le {B : Nat} : ∀ {n : Nat} {f : Nat → Int}, (∀ j, j < n → (f j).natAbs ≤ B) → KN.suA n f ≤ n * B
  | 0, f, _ => Nat.zero_le _
  | n + 1, f, h => by
    have := suA_le (n := n) (f := f) fun j hj => h j (by omega)
    have h2 := h n (by omega)
    show KN.suA n f + (f n).natAbs ≤ _
    rw [Nat.add_mul, Nat.one_mul]
    omega
theorem dotF_fL (f g : Int → Int) : ∀ n : Nat, dotF (fL n f) (fL n g) = KN.dot n (cV f) (cV g)
  | 0 => rfl
  | n + 1 => by
    rw [show ((n + 1 : Nat) : Int) = (n : Int) + 1 by omega, fL_snoc f (by omega), fL_snoc g (by omega), dotF_snoc _ _ _ _ (by rw [fL_len, fL_len]), dotF_fL f g n]
    rfl
theorem gcdL_prim {n : Nat} {x : Int → Int} (h : KN.Prim n (cV x)) (hn : 0 < n) : gcdL (fL n x) = 1 := by
  rw [gcdL_fL]
  have := h _ fun j hj => KN.gcdN_dvd hj
  have := KN.gcdN_nonneg n (cV x)
  omega
theorem mem_fL {n : Int} {f : Int → Int} {x : Int} (h : x ∈ fL n f) : ∃ j, 0 ≤ j ∧ j < n ∧ x = f j := by
  unfold fL at h
  obtain ⟨j, hj, rfl⟩ := List.mem_map.mp h
  exact ⟨j, (rgL_mem hj).1, (rgL_mem hj).2, rfl⟩
theorem depI_small {E : Nat} {m n k : Nat} {A W : Int → Int → Int} {b : Int} (S : St m n A k W) (hk : k < n) (hz : ∀ i j, 0 ≤ i → i < (m : Int) → 0 ≤ j → j < (n : Int) → Sz E (W i j)) (hb : Multi (diaL W k) E b) (hE : E + (k * E + 1) ≤ 13500) : ∀ j : Int, 0 ≤ j → j < n → DivS (depI W k b j) (gcdL (fL n (depI W k b))) := fun j j0 j1 => by
  have ll : (diaL W k).length = k := by unfold diaL; rw [fL_len]; omega
  have bs := hb.sz
  rw [ll] at bs
  have km := S.sh.le
  refine div_small (b := E + (k * E + 1)) ?_ hE
  unfold depI
  split
  · exact bs.mono (by omega)
  · split
    · rename_i c
      obtain ⟨j, rfl⟩ := Int.eq_ofNat_of_zero_le j0
      have hd : W j j ∣ b := by
        have : ((W j j).natAbs : Int) ∣ b := hb.all _ (by unfold diaL fL; exact List.mem_map.mpr ⟨j, mem_rgL (by omega) (by omega), rfl⟩)
        exact Int.natAbs_dvd.mp this
      have w0 : W j j ≠ 0 := S.sh.piv j (by omega)
      have s1 : Sz (k * E + 1) (b.fdiv (W j j)) := by
        rw [Int.fdiv_eq_ediv_of_dvd hd]
        refine Nat.lt_of_le_of_lt ?_ bs
        have := congrArg Int.natAbs (Int.mul_ediv_cancel' hd)
        rw [Int.natAbs_mul] at this
        rw [← this]
        exact Nat.le_mul_of_pos_left _ (by omega)
      exact (hz j k (by omega) (by omega) (by omega) (by omega)).neg.mul s1
    · show (0 : Int).natAbs < _
      exact Nat.pow_pos (by decide)
theorem sel_tl {xs : List T} {d : Int} {R : T → Prop} (h : 0 ≤ d ∧ d < 2) (q : R (sq (decide (d = 0)) xs)) : ∃ t, atI [T.tup xs, T.lst xs] d = some t ∧ R t := by
  rcases (show d = 0 ∨ d = 1 by omega) with e | e <;> subst e <;> exact ⟨_, rfl, q⟩
theorem sel_lt {xs : List T} {d : Int} {R : T → Prop} (h : 0 ≤ d ∧ d < 2) (q : R (sq (decide (d = 1)) xs)) : ∃ t, atI [T.lst xs, T.tup xs] d = some t ∧ R t := by
  rcases (show d = 0 ∨ d = 1 by omega) with e | e <;> subst e <;> exact ⟨_, rfl, q⟩
theorem rows_dep (m n : Int) (A : Int → Int → Int) : (T.lst (rowsL m n A)).dep 60 := by
  unfold T.dep
  exact deps_map (fun i => dep_L1 _ _) _
theorem rows_beq (m n : Int) (A : Int → Int → Int) : T.beq (.lst (rowsL m n A)) (.lst (rowsL m n A)) = true := by
  unfold T.beq
  exact beqs_map (fun i => beq_L1 _) _
theorem c_smr {t : Nat} {ns : List Int} {Q : T → Prop} (h : Q (.bl true)) : Cl (gam tbl (t + 5) 15 [.scr ns] Q) := by
  refine enter rfl rfl rfl ?_
  simp only [d15, entry]
  walk_at "gn"
  refine c_cell (n := t + 3) (by decide) (by decide) ?_
  walk_at "gn"
  refine c_digE (n := t + 3) (sizes := [7, 9, 5, 2, 3]) rfl (by decide) (by decide) fun ds hd => ?_
  have hlen : ds.length = 5 := hd.len
  have hb : ∀ k : Int, 0 ≤ k → k < 5 → 0 ≤ gi ds k ∧ gi ds k < gi [7, 9, 5, 2, 3] k := fun k a b => hd.gi k a (by show k < (5 : Int); omega)
  have b0 : 0 ≤ gi ds 0 ∧ gi ds 0 < 7 := hb 0 (by decide) (by decide)
  have b1 : 0 ≤ gi ds 1 ∧ gi ds 1 < 9 := hb 1 (by decide) (by decide)
  have b3 : 0 ≤ gi ds 3 ∧ gi ds 3 < 2 := hb 3 (by decide) (by decide)
  walk_at "gn"
  refine c_sml (t := t + 2) (by omega) (by omega) fun A hA => ?_
  obtain ⟨n, en⟩ := Int.eq_ofNat_of_zero_le (show 0 ≤ 1 + gi ds 0 by omega)
  obtain ⟨m, em⟩ := Int.eq_ofNat_of_zero_le (show 0 ≤ gi ds 1 by omega)
  simp only [en, em]
  rw [en, em] at hA
  have hn : 1 ≤ n ∧ n ≤ 7 := by omega
  have hm : m ≤ 8 := by omega
  walk_at "gn"
  refine c_dpt (t := t + 3) hm hn.2 hA fun r hr => ?_
  walk_at "gn"
  generalize hbb : decide (gi ds 3 = 0) = b
  refine lc_rg (fun i => sq b (iL (fL n (A i)))) (by omega) (fun j j0 j1 acc K ha hK => ?_) ?_
  · walk_at "gn"
    refine sel_tl b3 ?_
    rw [hbb]
    walk_at "gn"
    exact hK
  walk_at "gn"
  have rl : ∀ c, c < m → KN.suA n (cN A c) ≤ 7 * 2 ^ 91 := fun c hc => Nat.le_trans (suA_le (B := 2 ^ 91) fun j hj => Nat.le_of_lt (hA c j (by omega) (by omega) (by omega) (by omega))) (Nat.mul_le_mul_right _ hn.2)
  have kr : ∀ Z : T → Prop, (KN.Indep m n n (cN A) → Z .non) → (∀ (k : Nat) (x : Int → Int), Found m n A k x → Z (.tup (iL (fL n x)))) → Cl (gam tbl (t + 4) 6 [.lst ((rgL 0 m).map fun i => sq b (iL (fL n (A i)))), .int n] Z) := fun Z h1 h2 => by
    refine c_ker (t := t) (a := false) (E := 800) (by omega) (by omega) (by decide) (fun i j hi hj => ?_) ?_ (fun W k b hk S h0 hz hbm => depI_small S hk hz hbm ?_) h1 h2
    · refine Nat.le_trans (Nat.le_of_lt (hA i j (by omega) (by omega) (by omega) (by omega))) (Nat.pow_le_pow_right (by decide) (by decide))
    · refine Nat.le_trans (pr_le (e := 96) fun c hc => ?_) (Nat.pow_le_pow_right (by decide) (by omega))
      have := rl c hc
      have e : (2 : Nat) ^ 96 = 32 * 2 ^ 91 := by decide
      have p : 1 ≤ 2 ^ 91 := by decide
      show 1 + 2 * KN.suA n (cN A c) ≤ 2 ^ 96
      omega
    · have : k * 801 ≤ 7 * 801 := Nat.mul_le_mul_right _ (by omega)
      show 801 + (k * 801 + 1) ≤ 13500
      omega
  refine kr _ (fun hi => ?_) fun k x hf => ?_
  · -- none
    cases r with
    | some c =>
      obtain ⟨k, rfl, hk⟩ := hr
      exact (KN.first_no hk hi).elim
    | none =>
      simp only [oT]
      walk_at "gn"
      refine st_ite ?_
      walk_at "gn"
      refine lc_rg (fun i => .lst (iL (fL n (A i)))) (by omega) (fun j j0 j1 acc K ha hK => ?_) ?_
      · walk_at "gn"
        exact hK
      walk_at "gn"
      refine ⟨rows_dep m n A, rows_dep m n A, ?_⟩
      rw [if_neg (by rw [rows_beq]; decide)]
      walk_at "gn"
      refine st_ite ?_
      walk_at "gn"
      exact h
  · cases r with
    | none => exact (KN.first_no hf.first hr).elim
    | some c =>
      obtain ⟨k', rfl, hk⟩ := hr
      obtain rfl := KN.first_one hk hf.first
      have kn := hf.lt
      simp only [oT]
      walk_at "gn"
      refine st_ite ?_
      walk_at "gn"
      refine lc_rg (fun i => .lst (iL (fL n (A i)))) (by omega) (fun j j0 j1 acc K ha hK => ?_) ?_
      · walk_at "gn"
        exact hK
      walk_at "gn"
      refine ⟨rows_dep m n A, rows_dep m n A, ?_⟩
      rw [if_neg (by rw [rows_beq]; decide)]
      walk_at "gn"
      refine st_ite ?_
      walk_at "gn"
      refine st_ite ?_
      walk_at "gn"
      simp only [Int.toNat_natCast]
      walk_at "gn"
      refine forL_of (fun q env => env = [.sh (.scr ns), .sh (.lst (iL ds)), .sh (.int n), .sh (.lst (rowsL m n A)), .sh (.int k'), .sh (.lst ((rgL 0 m).map fun i => sq b (iL (fL n (A i))))), .sh (.tup (iL (fL n x))), .sh (.int (gcdL q)), .em, .em, .em]) (fL n x) _ rfl ?_ ?_
      · rintro q y r env K eq rfl hK
        walk_at "gn"
        refine st_ite ?_
        walk_at "gn"
        refine c_whole (t := t + 3) ?_
        walk_at "gn"
        refine c_lgcd (n := t + 3) ?_
        walk_at "gn"
        refine hK _ ?_
        rw [gcdL_snoc]
      · rintro env rfl
        walk_at "gn"
        rw [gcdL_prim hf.prim (by omega)]
        refine forL_rg (fun j env => env = [.sh (.scr ns), .sh (.lst (iL ds)), .sh (.int n), .sh (.lst (rowsL m n A)), .sh (.int k'), .sh (.lst ((rgL 0 m).map fun i => sq b (iL (fL n (A i))))), .sh (.tup (iL (fL n x))), .sh (.int 1), .em, .em, .em]) (by omega) _ rfl ?_ ?_
        · rintro j env K j0 j1 rfl hK
          obtain ⟨j, rfl⟩ := Int.eq_ofNat_of_zero_le j0
          walk_at "gn"
          refine st_ite ?_
          walk_at "gn"
          have dt : ∀ Z : T → Prop, Z (.int (dotF (fL n (A j)) (fL n x))) → Cl (gam tbl (t + 4) 10 [.lst (iL (fL n (A j))), .tup (iL (fL n x))] Z) := fun Z hZ => c_dot (n := t + 3) (a := false) (b := true) (by rw [fL_len, fL_len]) (by rw [fL_len]; omega) (fun y hy z hz => by
            obtain ⟨i, i0, i1, rfl⟩ := mem_fL hy
            obtain ⟨l, l0, l1, rfl⟩ := mem_fL hz
            exact mul_ok (hA j i j0 j1 i0 i1) (hf.sz l l0 l1) (by decide)) hZ
          refine dt _ ?_
          rw [dotF_fL, show KN.dot n (cV (A j)) (cV x) = 0 from hf.ker j (by omega)]
          walk_at "gn"
          exact hK _ rfl
        · rintro env rfl
          walk_at "gn"
          refine forL_range (fun j env => env = [.sh (.scr ns), .sh (.lst (iL ds)), .sh (.int n), .sh (.lst (rowsL m n A)), .sh (.int k'), .sh (.lst ((rgL 0 m).map fun i => sq b (iL (fL n (A i))))), .sh (.tup (iL (fL n x))), .sh (.int 1), .em, .em, .em]) (by omega) _ rfl ?_ ?_
          · rintro j env K j0 j1 rfl hK
            obtain ⟨j, rfl⟩ := Int.eq_ofNat_of_zero_le (show 0 ≤ j by omega)
            walk_at "gn"
            refine st_ite ?_
            walk_at "gn"
            rw [if_pos (hf.sup j (by omega) (by omega))]
            walk_at "gn"
            exact hK _ rfl
          · rintro env rfl
            walk_at "gn"
            have := hf.pos
            rw [decide_eq_true this]
            exact h
end K08

namespace K08
open PySem PySem.Spec PyProof.Rows L2 PT
local macro_rules | `(tactic| walk_at "wp") => `(tactic| simp only [↓PT.q_callK, PT.q_pk1, PT.q_pk10, PT.q_pk01, PT.wpE, PT.wpEs, PT.wpO, PT.wpB, PT.wpC, PT.wpI, PT.wpIS, PT.q_var, PT.q_vsh, PT.q_vow, PT.q_vbr, PT.q_val, PT.Env.get, PT.takes, PT.taksO, PT.taksF, PT.takF, PT.entO, PT.keeps, PT.bltT, PT.flatIf, PT.bwT, PT.wpFrz, PT.wpRetV, PT.wpL, PT.lvT, PT.nxtP, PT.wpMv, PT.Env.store, PT.Env.put, PT.Env.puts, PT.Env.wipe, PT.Env.mut, PT.Sl.unroot, PT.Sl.muted, PT.q_og0, PT.q_ogS, q_seq, q_idx, q_len, q_lst, q_tup, q_isin, q_add, q_sub, q_mul, q_fdiv, q_fdivN, q_fdivW, q_mod, q_pow, q_addL, q_mulL, q_addT, q_lt, q_le, q_gt, q_ge, q_eq, q_ne, q_eqLL, q_neLL, q_eqTT, q_neTT, q_eqLT, q_neLT, q_eqTL, q_neTL, q_eqB, q_neB, q_isN, q_notN, q_in_L, q_in_T, q_notInL, q_notInT, q_idxL, q_idxT, q_idxS, q_slc, q_slcT, q_fst, q_end, q_neg, q_tru, q_asI, q_asIs0, q_asIs1, q_lenL, q_lenT, q_lenS, q_abs, q_maxI, q_minI, q_maxL, q_maxT, q_minL, q_minT, q_sumL, q_sumT, q_all, q_any, q_intI, q_intB, q_tupL, q_tupT, q_lstL, q_lstT, q_lstS, q_rng1, q_rng2, q_seqL, q_seqT, q_seqS, q_gcd, q_isiI, q_isiB, q_isiL, q_isiT, q_isiN, q_isiS, q_unp, q_take0, q_takeF, q_takeI, q_keep0, q_keepF, q_sl0, q_slF, q_slB, q_it0, q_itF, q_itB, q_sh0, q_sh1, q_sh2, q_shF, q_frz0, q_frzF, q_asgN, q_asgF, q_rd0, q_rdF, PT.q_put0, PT.It.slots, List.map_cons, List.map_nil, List.append_nil, List.nil_append, List.cons_append, List.length_cons, List.length_nil, List.length_map, List.zip_cons_cons, List.zip_nil_left, PT.rgL_len, PT.fL_len, Int.sub_zero, List.any_cons, List.any_nil, PT.kdIs, Bool.or_false, Bool.false_or, Bool.or_true, Bool.and_true, Bool.true_and, Bool.not_true, Bool.not_false, Bool.not_eq_true', decide_eq_true_eq, decide_eq_false_iff_not, Bool.false_eq_true, Bool.true_eq_false, reduceCtorEq, if_true, if_false, ite_not, true_and, and_true, eq_self, len_iL, decide_true, decide_false, Nat.reduceAdd, Nat.reduceSub, reduceIte, Nat.reduceLT, Nat.reduceEqDiff, ne_eq, not_false_eq_true, not_true_eq_false, PT.T.isNon, true_or, false_or, Nat.le_refl, Nat.lt_irrefl, Nat.zero_lt_succ, Nat.not_lt_zero, PT.T.flat, List.all_cons, List.all_nil, List.replicate, PT.q_at0, Option.some.injEq, T.lst.injEq, exists_and_left, exists_eq_left, exists_eq_left', rd0, rd1, rd2, rd3, rd4, rd5, rd6, rd7, rd8, rd9, rd10, rd11, rd12, rd13, rd14, rd15, rd16, rd17, rd18, rd19, rd20, rd21, rd22, rd23])
local macro_rules | `(tactic| walk_at "st") => `(tactic| with_reducible first | refine st_asg ?_ | refine st_own ?_ | refine st_frz ?_ | refine st_fgt ?_ | refine st_fst ?_ | refine st_ret ?_ | refine st_retV ?_ | refine st_app ?_ | refine st_sto ?_ | refine st_appMv ?_ | refine st_ali ?_ | refine st_unp ?_ | refine st_forD ?_ | refine st_retN ?_ | refine st_brk ?_ | refine st_cnt ?_ | refine st_pas ?_ | refine st_ex ?_ | refine st_ite ?_ | refine st_for ?_ | refine st_nil ?_)
local macro_rules | `(tactic| walk_at "ob") => `(tactic| first | exact trivial | assumption | (with_reducible rfl) | omega | decide | exact mul_okL (by omega) (by omega) | exact mul_okR (by omega) (by omega) | exact mul_ok (by assumption) (by assumption) (by decide) | (unfold sizeLine; omega))
local macro_rules | `(tactic| walk_at "cj") => `(tactic| with_reducible first | refine And.intro (by walk_at "ob") ?_ | refine x_l0 ?_ | refine x_l1 ?_ | refine x_l2 ?_ | refine x_l3 ?_ | refine x_fL (by omega) (by omega) ?_ | refine x_rg (by omega) (by omega) ?_ | refine x_lastI (by omega) ?_ | refine x_last (by omega) ?_ | refine x_idx (by omega) (by omega) ?_ | refine x_ix (by omega) (by omega) ?_)
local macro_rules | `(tactic| walk_at "sn") => `(tactic| with_reducible first | refine st_asg ?_ | refine st_own ?_ | refine st_frz ?_ | refine st_fgt ?_ | refine st_fst ?_ | refine st_ret ?_ | refine st_retV ?_ | refine st_app ?_ | refine st_sto ?_ | refine st_appMv ?_ | refine st_ali ?_ | refine st_unp ?_ | refine st_forD ?_ | refine st_retN ?_ | refine st_brk ?_ | refine st_cnt ?_ | refine st_pas ?_ | refine st_ex ?_ | refine st_for ?_ | refine st_nil ?_)
local macro_rules | `(tactic| walk_at "gn") => `(tactic| (repeat (first | walk_at "cj" | walk_at "sn" | walk_at "wp")))
local macro_rules | `(tactic| walk_at "go") => `(tactic| (repeat (first | walk_at "cj" | walk_at "st" | walk_at "wp")))

theorem fL_snocF {p z : Int} (hp : 0 ≤ p) (f : Int → Int) : iL (fL p f) ++ [.int z] = iL (fL (p + 1) fun j => if j = p then z else f j) := by
  rw [fL_snoc _ hp, iL_snoc, if_pos rfl]
  congr 2
  exact fL_congr fun j _ j1 => by rw [if_neg (by omega)]
def P16 (ns : List Int) (p : Int) (gr : Bool) (dr fi : List Int) (env : PT.Env) : Prop := ∃ f : Int → Int, ((∀ j, 0 ≤ j → j ≤ p → Sz 88 (f j)) ∧ 0 < f p) ∧ env = [.sh (.scr ns), .sh (.int p), .sh (.bl gr), .sh (.lst (iL dr)), .sh (.lst (iL fi)), .ow 1 (.lst (iL (fL (p + 1) f))), .em, .em, .em]
theorem c_hid {t : Nat} {ns : List Int} {p : Nat} {gr : Bool} {Q : T → Prop} (hp : p ≤ 59) (h : ∀ f : Int → Int, (∀ j, 0 ≤ j → j ≤ (p : Int) → Sz 88 (f j)) → 0 < f p → KN.Prim (p + 1) (cV f) → Q (.lst (iL (fL (p + 1) f)))) : Cl (gam tbl (t + 2) 16 [.scr ns, .int p, .bl gr] Q) := by
  refine enter rfl rfl rfl ?_
  simp only [d16, entry]
  walk_at "gn"
  refine c_cell (n := t) (by decide) (by decide) ?_
  walk_at "gn"
  refine c_digE (n := t) (sizes := List.replicate 60 19) rfl (by decide) (by decide) fun dr hdr => ?_
  obtain ⟨l1, b1⟩ := hdr.rep
  have b1 : ∀ k : Int, 0 ≤ k → k < 60 → 0 ≤ gi dr k ∧ gi dr k < 19 := b1
  walk_at "gn"
  refine c_cell (n := t) (by decide) (by decide) ?_
  walk_at "gn"
  refine c_digE (n := t) (sizes := List.replicate 8 (10 ^ 25)) rfl (by decide) (by decide) fun fi hfi => ?_
  obtain ⟨l2, b2⟩ := hfi.rep
  have b2 : ∀ k : Int, 0 ≤ k → k < 8 → 0 ≤ gi fi k ∧ gi fi k < 10 ^ 25 := b2
  walk_at "gn"
  refine lc_rng (fun j => .int (gi dr j - 9)) (by omega) (fun j j0 j1 acc K ha hK => ?_) ?_
  · walk_at "gn"
    exact hK
  rw [fL_map]
  walk_at "gn"
  rw [fL_snocF (by omega)]
  have b59 := b1 59 (by decide) (by decide)
  refine st_mid_ite (P16 ns p gr dr fi) (gam_mono _ _) ?_ ?_
  · walk_at "gn"
    cases gr with
    | false =>
      walk_at "gn"
      refine ⟨fun j => if j = p then 1 + gi dr 59 else gi dr j - 9, ⟨fun j j0 j1 => ?_, ?_⟩, rfl⟩
      · dsimp only
        split
        · exact sz_of (by omega) (by omega)
        · have := b1 j j0 (by omega)
          exact sz_of (by omega) (by omega)
      · dsimp only; rw [if_pos rfl]; omega
    | true =>
      walk_at "gn"
      rw [fL_set (by omega)]
      have b7 := b2 7 (by decide) (by decide)
      refine forL_range (fun j env => 0 ≤ j ∧ ∃ f : Int → Int, (∀ i, 0 ≤ i → i < (p : Int) → if i < j then Sz 88 (f i) else -10 < f i ∧ f i < 10) ∧ (0 < f p ∧ f p < 19 * 10 ^ 25 + 1) ∧ env = [.sh (.scr ns), .sh (.int p), .sh (.bl true), .sh (.lst (iL dr)), .sh (.lst (iL fi)), .ow 1 (.lst (iL (fL (p + 1) f))), .em, .em, .em]) (by omega) _ ⟨by decide, _, fun i i0 i1 => ?_, ?_, rfl⟩ ?_ ?_
      · rw [if_neg (by omega), if_neg (by omega), if_neg (by omega)]
        have := b1 i i0 (by omega)
        omega
      · rw [if_pos rfl]
        have h1 : 1 ≤ 1 + gi dr 59 := by omega
        have h2 : 1 ≤ 1 + gi fi 7 := by omega
        refine ⟨Int.mul_pos (by omega) (by omega), ?_⟩
        have := Int.mul_le_mul (a := 1 + gi dr 59) (c := 19) (b := 1 + gi fi 7) (d := 10 ^ 25) (by omega) (by omega) (by omega) (by decide)
        omega
      · rintro j env K j0 j1 ⟨_, f, hf, hp0, rfl⟩ hK
        have jb := b2 j j0 (by omega)
        have fj := hf j j0 (by omega)
        rw [if_neg (by omega)] at fj
        walk_at "gn"
        rw [fL_set j0]
        refine hK _ ⟨by omega, _, fun i i0 i1 => ?_, ?_, rfl⟩
        · by_cases e : i = j
          · rw [if_pos (by omega), if_pos e]
            have s1 : Sz 4 (f j) := sz_of (by omega) (by omega)
            have s2 : Sz 84 (1 + gi fi j) := sz_of (by omega) (by omega)
            exact s1.mul s2
          · rw [if_neg e]
            have := hf i i0 i1
            by_cases c : i < j
            · rw [if_pos c] at this; rw [if_pos (by omega)]; exact this
            · rw [if_neg c] at this; rw [if_neg (by omega)]; exact this
        · rw [if_neg (by omega)]; exact hp0
      · rintro env ⟨_, f, hf, hp0, rfl⟩
        walk_at "gn"
        refine ⟨f, ⟨fun j j0 j1 => ?_, hp0.1⟩, rfl⟩
        by_cases e : j = p
        · rw [e]; exact sz_of (by omega) (by omega)
        · have := hf j j0 (by omega)
          split at this
          · exact this
          · exact sz_of (by omega) (by omega)
  rintro env ⟨f, ⟨hf, hp0⟩, rfl⟩
  walk_at "gn"
  refine forL_of (fun q env => env = [.sh (.scr ns), .sh (.int p), .sh (.bl gr), .sh (.lst (iL dr)), .sh (.lst (iL fi)), .sh (.lst (iL (fL (p + 1) f))), .sh (.int (gcdL q)), .em, .em]) (fL (p + 1) f) _ rfl ?_ ?_
  · rintro q y r env K eq rfl hK
    walk_at "gn"
    refine c_lgcd (n := t) ?_
    walk_at "gn"
    refine hK _ ?_
    rw [gcdL_snoc]
  · rintro env rfl
    have g0 : 0 < gcdL (fL (p + 1) f) := by
      have h1 := gcdL_nonneg (fL (p + 1) f)
      have h2 := gcdL_dvd (fL (p + 1) f) (f p) (by unfold fL; exact List.mem_map.mpr ⟨p, mem_rgL (by omega) (by omega), rfl⟩)
      refine Classical.byContradiction fun z => ?_
      rw [show gcdL (fL (p + 1) f) = 0 by omega] at h2
      have := Int.zero_dvd.mp h2
      omega
    have sg : Sz 88 (gcdL (fL (p + 1) f)) := gcdL_sz fun x hx => by
      obtain ⟨j, j0, j1, rfl⟩ := mem_fL hx
      exact hf j j0 (by omega)
    have el : ∀ j, lowI (p + 1) f j = f j / gcdL (fL (p + 1) f) := fun j => by
      unfold lowI
      split
      · rw [show gcdL (fL (p + 1) f) = 1 by omega, Int.ediv_one]
      · rfl
    walk_at "gn"
    refine lc_fL (fun j => .int (lowI (p + 1) f j)) (by omega) (fun j j0 j1 acc K ha hK => ?_) ?_
    · walk_at "gn"
      refine ⟨⟨g0, sg.log (by decide) (by omega)⟩, ?_⟩
      walk_at "gn"
      rw [← el]
      exact hK
    rw [fL_map]
    walk_at "gn"
    have ec : cV (lowI (p + 1) f) = KN.low (p + 1) (cV f) := lowI_cV (p + 1) f
    obtain ⟨g, g1, g2⟩ := KN.low_mul (p + 1) (cV f)
    have at_ : ∀ j : Nat, j < p + 1 → g * lowI (p + 1) f j = f j := fun j hj => by
      have := g2 j hj
      rw [← ec] at this
      exact this
    refine h (lowI (p + 1) f) (fun j j0 j1 => ?_) ?_ ?_
    · obtain ⟨j, rfl⟩ := Int.eq_ofNat_of_zero_le j0
      refine Nat.lt_of_le_of_lt ?_ (hf j j0 j1)
      rw [← at_ j (by omega), Int.natAbs_mul]
      exact Nat.le_mul_of_pos_left _ (by omega)
    · refine Classical.byContradiction fun z => ?_
      have := at_ p (by omega)
      have : g * lowI (p + 1) f p ≤ 0 := Int.mul_nonpos_of_nonneg_of_nonpos (by omega) (by omega)
      omega
    · rw [ec]
      exact KN.low_prim (j0 := p) (by omega) (by show f p ≠ 0; omega)
end K08

namespace K08
open PySem PySem.Spec PyProof.Rows L2 PT
local macro_rules | `(tactic| walk_at "wp") => `(tactic| simp only [↓PT.q_callK, PT.q_pk1, PT.q_pk10, PT.q_pk01, PT.wpE, PT.wpEs, PT.wpO, PT.wpB, PT.wpC, PT.wpI, PT.wpIS, PT.q_var, PT.q_vsh, PT.q_vow, PT.q_vbr, PT.q_val, PT.Env.get, PT.takes, PT.taksO, PT.taksF, PT.takF, PT.entO, PT.keeps, PT.bltT, PT.flatIf, PT.bwT, PT.wpFrz, PT.wpRetV, PT.wpL, PT.lvT, PT.nxtP, PT.wpMv, PT.Env.store, PT.Env.put, PT.Env.puts, PT.Env.wipe, PT.Env.mut, PT.Sl.unroot, PT.Sl.muted, PT.q_og0, PT.q_ogS, q_seq, q_idx, q_len, q_lst, q_tup, q_isin, q_add, q_sub, q_mul, q_fdiv, q_fdivN, q_fdivW, q_mod, q_pow, q_addL, q_mulL, q_addT, q_lt, q_le, q_gt, q_ge, q_eq, q_ne, q_eqLL, q_neLL, q_eqTT, q_neTT, q_eqLT, q_neLT, q_eqTL, q_neTL, q_eqB, q_neB, q_isN, q_notN, q_in_L, q_in_T, q_notInL, q_notInT, q_idxL, q_idxT, q_idxS, q_slc, q_slcT, q_fst, q_end, q_neg, q_tru, q_asI, q_asIs0, q_asIs1, q_lenL, q_lenT, q_lenS, q_abs, q_maxI, q_minI, q_maxL, q_maxT, q_minL, q_minT, q_sumL, q_sumT, q_all, q_any, q_intI, q_intB, q_tupL, q_tupT, q_lstL, q_lstT, q_lstS, q_rng1, q_rng2, q_seqL, q_seqT, q_seqS, q_gcd, q_isiI, q_isiB, q_isiL, q_isiT, q_isiN, q_isiS, q_unp, q_take0, q_takeF, q_takeI, q_keep0, q_keepF, q_sl0, q_slF, q_slB, q_it0, q_itF, q_itB, q_sh0, q_sh1, q_sh2, q_shF, q_frz0, q_frzF, q_asgN, q_asgF, q_rd0, q_rdF, PT.q_put0, PT.It.slots, List.map_cons, List.map_nil, List.append_nil, List.nil_append, List.cons_append, List.length_cons, List.length_nil, List.length_map, List.zip_cons_cons, List.zip_nil_left, PT.rgL_len, PT.fL_len, Int.sub_zero, List.any_cons, List.any_nil, PT.kdIs, Bool.or_false, Bool.false_or, Bool.or_true, Bool.and_true, Bool.true_and, Bool.not_true, Bool.not_false, Bool.not_eq_true', decide_eq_true_eq, decide_eq_false_iff_not, Bool.false_eq_true, Bool.true_eq_false, reduceCtorEq, if_true, if_false, ite_not, true_and, and_true, eq_self, len_iL, decide_true, decide_false, Nat.reduceAdd, Nat.reduceSub, reduceIte, Nat.reduceLT, Nat.reduceEqDiff, ne_eq, not_false_eq_true, not_true_eq_false, PT.T.isNon, true_or, false_or, Nat.le_refl, Nat.lt_irrefl, Nat.zero_lt_succ, Nat.not_lt_zero, PT.T.flat, List.all_cons, List.all_nil, List.replicate, PT.q_at0, Option.some.injEq, T.lst.injEq, exists_and_left, exists_eq_left, exists_eq_left', rd0, rd1, rd2, rd3, rd4, rd5, rd6, rd7, rd8, rd9, rd10, rd11, rd12, rd13, rd14, rd15, rd16, rd17, rd18, rd19, rd20, rd21, rd22, rd23])
local macro_rules | `(tactic| walk_at "st") => `(tactic| with_reducible first | refine st_asg ?_ | refine st_own ?_ | refine st_frz ?_ | refine st_fgt ?_ | refine st_fst ?_ | refine st_ret ?_ | refine st_retV ?_ | refine st_app ?_ | refine st_sto ?_ | refine st_appMv ?_ | refine st_ali ?_ | refine st_unp ?_ | refine st_forD ?_ | refine st_retN ?_ | refine st_brk ?_ | refine st_cnt ?_ | refine st_pas ?_ | refine st_ex ?_ | refine st_ite ?_ | refine st_for ?_ | refine st_nil ?_)
local macro_rules | `(tactic| walk_at "ob") => `(tactic| first | exact trivial | assumption | (with_reducible rfl) | omega | decide | exact mul_okL (by omega) (by omega) | exact mul_okR (by omega) (by omega) | exact mul_ok (by assumption) (by assumption) (by decide) | (unfold sizeLine; omega))
local macro_rules | `(tactic| walk_at "cj") => `(tactic| with_reducible first | refine And.intro (by walk_at "ob") ?_ | refine x_l0 ?_ | refine x_l1 ?_ | refine x_l2 ?_ | refine x_l3 ?_ | refine x_fL (by omega) (by omega) ?_ | refine x_rg (by omega) (by omega) ?_ | refine x_lastI (by omega) ?_ | refine x_last (by omega) ?_ | refine x_idx (by omega) (by omega) ?_ | refine x_ix (by omega) (by omega) ?_)
local macro_rules | `(tactic| walk_at "sn") => `(tactic| with_reducible first | refine st_asg ?_ | refine st_own ?_ | refine st_frz ?_ | refine st_fgt ?_ | refine st_fst ?_ | refine st_ret ?_ | refine st_retV ?_ | refine st_app ?_ | refine st_sto ?_ | refine st_appMv ?_ | refine st_ali ?_ | refine st_unp ?_ | refine st_forD ?_ | refine st_retN ?_ | refine st_brk ?_ | refine st_cnt ?_ | refine st_pas ?_ | refine st_ex ?_ | refine st_for ?_ | refine st_nil ?_)
local macro_rules | `(tactic| walk_at "gn") => `(tactic| (repeat (first | walk_at "cj" | walk_at "sn" | walk_at "wp")))
local macro_rules | `(tactic| walk_at "go") => `(tactic| (repeat (first | walk_at "cj" | walk_at "st" | walk_at "wp")))

/-! ### the planted rows -/
abbrev su (n : Nat) (f : Int → Int) : Nat := KN.suA n (cV f)
structure PlA (n p : Nat) (h : Int → Int) (A : Int → Int → Int) : Prop where
  dia : ∀ j : Nat, j < p → A j j = h p
  las : ∀ j : Nat, j < p → A j p = -h j
  off : ∀ j k : Nat, j < p → k < p → k ≠ j → A j k = 0
  tai : ∀ j k : Nat, j < p → p < k → k < n → (A j k).natAbs ≤ 3
def P17 (n p : Int) (h : Int → Int) (j : Int) (k : Int) (f : Int → Int) : Prop := f j = h p ∧ f p = -h j ∧ (∀ i, 0 ≤ i → i < p → i ≠ j → f i = 0) ∧ ∀ i, p < i → i < n → if i < k then (f i).natAbs ≤ 3 else f i = 0
theorem c_pla {t : Nat} {ns : List Int} {n p : Nat} {h : Int → Int} {Q : T → Prop} (hn : n ≤ 60) (hp : p < n) (hQ : ∀ A, PlA n p h A → Q (.lst (rowsL p n A))) : Cl (gam tbl (t + 2) 17 [.scr ns, .lst (iL (fL (p + 1) h)), .int n] fun t => Q t) := by
  refine enter rfl rfl rfl ?_
  simp only [d17, entry]
  walk_at "gn"
  refine c_cell (n := t) (by decide) (by decide) ?_
  walk_at "gn"
  refine c_digE (n := t) (sizes := List.replicate 60 7) rfl (by decide) (by decide) fun dr hdr => ?_
  obtain ⟨l1, b1⟩ := hdr.rep
  have b1 : ∀ k : Int, 0 ≤ k → k < 60 → 0 ≤ gi dr k ∧ gi dr k < 7 := b1
  walk_at "gn"
  rw [show ((((p : Int) + 1).toNat : Nat) : Int) - 1 = p by omega]
  refine forL_range (fun j env => 0 ≤ j ∧ ∃ A : Int → Int → Int, (∀ i, 0 ≤ i → i < j → P17 n p h i n (A i)) ∧ env = [.sh (.scr ns), .sh (.lst (iL (fL (p + 1) h))), .sh (.int n), .sh (.lst (iL dr)), .sh (.int p), .ow 1 (.lst (rowsL j n A)), .em, .em, .em]) (by omega) _ ⟨by decide, fun _ _ => 0, fun i i0 i1 => by omega, rfl⟩ ?_ ?_
  · rintro j env K j0 j1 ⟨_, A, hA, rfl⟩ hK
    have lj : (rowsL j n A).length < sizeLine := by rw [len_rg]; unfold sizeLine; omega
    walk_at "gn"
    refine lc_rng (fun _ => .int 0) (by omega) (fun i i0 i1 acc K2 ha hK2 => ?_) ?_
    · walk_at "gn"
      exact hK2
    rw [show ((rgL 0 (n : Int)).map fun _ => T.int 0) = iL (fL n fun _ => 0) from (iL_fL _ _).symm]
    walk_at "gn"
    simp only [fL_set j0]
    refine ⟨(p : Int).toNat, ixN_at (by omega) (by rw [len_iL, fL_len]; omega), ?_⟩
    rw [fL_set (by omega)]
    walk_at "gn"
    refine forL_range (fun k env => 0 ≤ k ∧ ∃ f : Int → Int, P17 n p h j k f ∧ env = [.sh (.scr ns), .sh (.lst (iL (fL (p + 1) h))), .sh (.int n), .sh (.lst (iL dr)), .sh (.int p), .ow 1 (.lst (rowsL j n A)), .sh (.int j), .ow 1 (.lst (iL (fL n f))), .em]) (by omega) _ ⟨by omega, _, ⟨?_, ?_, fun i i0 i1 ne => ?_, fun i i0 i1 => ?_⟩, rfl⟩ ?_ ?_
    · rw [if_neg (by omega), if_pos rfl]
    · rw [if_pos rfl]
    · rw [if_neg (by omega), if_neg ne]
    · rw [if_neg (by omega), if_neg (by omega), if_neg (by omega)]
    · rintro k env K2 k0 k1 ⟨_, f, ⟨f1, f2, f3, f4⟩, rfl⟩ hK2
      have m1 := mod_ok (i := 5 * j + 11 * k) (j := 60) (by decide)
      have dk := b1 ((5 * j + 11 * k) % 60) m1.1 m1.2
      walk_at "gn"
      rw [fL_set (by omega)]
      refine hK2 _ ⟨by omega, _, ⟨?_, ?_, fun i i0 i1 ne => ?_, fun i i0 i1 => ?_⟩, rfl⟩
      · rw [if_neg (by omega)]; exact f1
      · rw [if_neg (by omega)]; exact f2
      · rw [if_neg (by omega)]; exact f3 i i0 i1 ne
      · by_cases e : i = k
        · rw [if_pos e, if_pos (by omega)]; omega
        · rw [if_neg e]
          have := f4 i i0 i1
          by_cases c : i < k
          · rw [if_pos c] at this; rw [if_pos (by omega)]; exact this
          · rw [if_neg c] at this; rw [if_neg (by omega)]; exact this
    · rintro env ⟨_, f, hf, rfl⟩
      walk_at "gn"
      refine hK _ ⟨by omega, fun i => if i = j then f else A i, fun i i0 i1 => ?_, ?_⟩
      · dsimp only
        by_cases e : i = j
        · rw [if_pos e, e]; exact hf
        · rw [if_neg e]; exact hA i i0 (by omega)
      · have : rowsL j n A ++ [T.lst (iL (fL n f))] = rowsL (j + 1) n fun i => if i = j then f else A i := by
          unfold rowsL
          rw [rg_snoc _ j0]
          dsimp only
          rw [if_pos rfl]
          congr 1
          exact rg_congr fun i _ i1 => by rw [if_neg (by omega)]
        rw [this]
  · rintro env ⟨_, A, hA, rfl⟩
    walk_at "gn"
    refine hQ A ⟨fun j hj => (hA j (by omega) (by omega)).1, fun j hj => (hA j (by omega) (by omega)).2.1, fun j k hj hk ne => (hA j (by omega) (by omega)).2.2.1 k (by omega) (by omega) (by omega), fun j k hj hk kn => ?_⟩
    have := (hA j (by omega) (by omega)).2.2.2 k (by omega) (by omega)
    rw [if_pos (by omega)] at this
    exact this
/-! ### the full rows -/
structure FuA (n : Nat) (A : Int → Int → Int) : Prop where
  dia : ∀ j : Nat, j < n → A j j ≠ 0 ∧ Sz 40 (A j j)
  off : ∀ j k : Nat, j < n → k < n → k ≠ j → A j k = 0
def P18 (n j : Int) (f : Int → Int) : Prop := (f j ≠ 0 ∧ Sz 40 (f j)) ∧ ∀ i, 0 ≤ i → i < n → i ≠ j → f i = 0
def P18e (ns : List Int) (n : Int) (dr : List Int) (A : Int → Int → Int) (j : Int) (env : PT.Env) : Prop := ∃ f : Int → Int, P18 n j f ∧ env = [.sh (.scr ns), .sh (.int n), .sh (.lst (iL dr)), .ow 1 (.lst (rowsL j n A)), .sh (.int j), .ow 1 (.lst (iL (fL n f))), .em]
theorem snoc_rows {j n : Int} (j0 : 0 ≤ j) (A : Int → Int → Int) (f : Int → Int) : rowsL j n A ++ [T.lst (iL (fL n f))] = rowsL (j + 1) n fun i => if i = j then f else A i := by
  unfold rowsL
  rw [rg_snoc _ j0]
  dsimp only
  rw [if_pos rfl]
  congr 1
  exact rg_congr fun i _ i1 => by rw [if_neg (by omega)]
theorem c_ful {t : Nat} {ns : List Int} {n : Nat} {Q : T → Prop} (hn : n ≤ 60) (hQ : ∀ A, FuA n A → Q (.lst (rowsL n n A))) : Cl (gam tbl (t + 2) 18 [.scr ns, .int n] fun t => Q t) := by
  refine enter rfl rfl rfl ?_
  simp only [d18, entry]
  walk_at "gn"
  refine c_cell (n := t) (by decide) (by decide) ?_
  walk_at "gn"
  refine c_digE (n := t) (sizes := List.replicate 60 19) rfl (by decide) (by decide) fun dr hdr => ?_
  obtain ⟨l1, b1⟩ := hdr.rep
  have b1 : ∀ k : Int, 0 ≤ k → k < 60 → 0 ≤ gi dr k ∧ gi dr k < 19 := b1
  walk_at "gn"
  refine forL_range (fun j env => 0 ≤ j ∧ ∃ A : Int → Int → Int, (∀ i, 0 ≤ i → i < j → P18 n i (A i)) ∧ env = [.sh (.scr ns), .sh (.int n), .sh (.lst (iL dr)), .ow 1 (.lst (rowsL j n A)), .em, .em, .em]) (by omega) _ ⟨by decide, fun _ _ => 0, fun i i0 i1 => by omega, rfl⟩ ?_ ?_
  · rintro j env K j0 j1 ⟨_, A, hA, rfl⟩ hK
    have lj : (rowsL j n A).length < sizeLine := by rw [len_rg]; unfold sizeLine; omega
    have bj := b1 j j0 (by omega)
    walk_at "gn"
    refine lc_rng (fun _ => .int 0) (by omega) (fun i i0 i1 acc K2 ha hK2 => ?_) ?_
    · walk_at "gn"
      exact hK2
    rw [show ((rgL 0 (n : Int)).map fun _ => T.int 0) = iL (fL n fun _ => 0) from (iL_fL _ _).symm]
    walk_at "gn"
    rw [fL_set j0]
    refine st_mid_ite (P18e ns n dr A j) (gam_mono _ _) ?_ ?_
    · walk_at "gn"
      refine iteE (fun h1 => ?_) fun h1 => ?_
      · walk_at "gn"
        rw [fL_set j0]
        refine ⟨_, ⟨⟨?_, ?_⟩, fun i i0 i1 ne => ?_⟩, rfl⟩
        · rw [if_pos rfl]; decide
        · rw [if_pos rfl]; show (10 ^ Int.toNat 12 : Int).natAbs < 2 ^ 40; decide
        · rw [if_neg ne, if_neg ne]
      · walk_at "gn"
        refine ⟨_, ⟨⟨?_, ?_⟩, fun i i0 i1 ne => ?_⟩, rfl⟩
        · rw [if_pos rfl]; exact h1
        · rw [if_pos rfl]; exact sz_of (by omega) (by omega)
        · rw [if_neg ne]
    rintro env ⟨f, hf, rfl⟩
    walk_at "gn"
    refine hK _ ⟨by omega, fun i => if i = j then f else A i, fun i i0 i1 => ?_, by rw [snoc_rows j0]⟩
    dsimp only
    by_cases e : i = j
    · rw [if_pos e, e]; exact hf
    · rw [if_neg e]; exact hA i i0 (by omega)
  · rintro env ⟨_, A, hA, rfl⟩
    walk_at "gn"
    exact hQ A ⟨fun j hj => (hA j (by omega) (by omega)).1, fun j k hj hk ne => (hA j (by omega) (by omega)).2 k (by omega) (by omega) (by omega)⟩
end K08

namespace K08
open PySem PySem.Spec PyProof.Rows L2 PT
local macro_rules | `(tactic| walk_at "wp") => `(tactic| simp only [↓PT.q_callK, PT.q_pk1, PT.q_pk10, PT.q_pk01, PT.wpE, PT.wpEs, PT.wpO, PT.wpB, PT.wpC, PT.wpI, PT.wpIS, PT.q_var, PT.q_vsh, PT.q_vow, PT.q_vbr, PT.q_val, PT.Env.get, PT.takes, PT.taksO, PT.taksF, PT.takF, PT.entO, PT.keeps, PT.bltT, PT.flatIf, PT.bwT, PT.wpFrz, PT.wpRetV, PT.wpL, PT.lvT, PT.nxtP, PT.wpMv, PT.Env.store, PT.Env.put, PT.Env.puts, PT.Env.wipe, PT.Env.mut, PT.Sl.unroot, PT.Sl.muted, PT.q_og0, PT.q_ogS, q_seq, q_idx, q_len, q_lst, q_tup, q_isin, q_add, q_sub, q_mul, q_fdiv, q_fdivN, q_fdivW, q_mod, q_pow, q_addL, q_mulL, q_addT, q_lt, q_le, q_gt, q_ge, q_eq, q_ne, q_eqLL, q_neLL, q_eqTT, q_neTT, q_eqLT, q_neLT, q_eqTL, q_neTL, q_eqB, q_neB, q_isN, q_notN, q_in_L, q_in_T, q_notInL, q_notInT, q_idxL, q_idxT, q_idxS, q_slc, q_slcT, q_fst, q_end, q_neg, q_tru, q_asI, q_asIs0, q_asIs1, q_lenL, q_lenT, q_lenS, q_abs, q_maxI, q_minI, q_maxL, q_maxT, q_minL, q_minT, q_sumL, q_sumT, q_all, q_any, q_intI, q_intB, q_tupL, q_tupT, q_lstL, q_lstT, q_lstS, q_rng1, q_rng2, q_seqL, q_seqT, q_seqS, q_gcd, q_isiI, q_isiB, q_isiL, q_isiT, q_isiN, q_isiS, q_unp, q_take0, q_takeF, q_takeI, q_keep0, q_keepF, q_sl0, q_slF, q_slB, q_it0, q_itF, q_itB, q_sh0, q_sh1, q_sh2, q_shF, q_frz0, q_frzF, q_asgN, q_asgF, q_rd0, q_rdF, PT.q_put0, PT.It.slots, List.map_cons, List.map_nil, List.append_nil, List.nil_append, List.cons_append, List.length_cons, List.length_nil, List.length_map, List.zip_cons_cons, List.zip_nil_left, PT.rgL_len, PT.fL_len, Int.sub_zero, List.any_cons, List.any_nil, PT.kdIs, Bool.or_false, Bool.false_or, Bool.or_true, Bool.and_true, Bool.true_and, Bool.not_true, Bool.not_false, Bool.not_eq_true', decide_eq_true_eq, decide_eq_false_iff_not, Bool.false_eq_true, Bool.true_eq_false, reduceCtorEq, if_true, if_false, ite_not, true_and, and_true, eq_self, len_iL, decide_true, decide_false, Nat.reduceAdd, Nat.reduceSub, reduceIte, Nat.reduceLT, Nat.reduceEqDiff, ne_eq, not_false_eq_true, not_true_eq_false, PT.T.isNon, true_or, false_or, Nat.le_refl, Nat.lt_irrefl, Nat.zero_lt_succ, Nat.not_lt_zero, PT.T.flat, List.all_cons, List.all_nil, List.replicate, PT.q_at0, Option.some.injEq, T.lst.injEq, exists_and_left, exists_eq_left, exists_eq_left', rd0, rd1, rd2, rd3, rd4, rd5, rd6, rd7, rd8, rd9, rd10, rd11, rd12, rd13, rd14, rd15, rd16, rd17, rd18, rd19, rd20, rd21, rd22, rd23])
local macro_rules | `(tactic| walk_at "st") => `(tactic| with_reducible first | refine st_asg ?_ | refine st_own ?_ | refine st_frz ?_ | refine st_fgt ?_ | refine st_fst ?_ | refine st_ret ?_ | refine st_retV ?_ | refine st_app ?_ | refine st_sto ?_ | refine st_appMv ?_ | refine st_ali ?_ | refine st_unp ?_ | refine st_forD ?_ | refine st_retN ?_ | refine st_brk ?_ | refine st_cnt ?_ | refine st_pas ?_ | refine st_ex ?_ | refine st_ite ?_ | refine st_for ?_ | refine st_nil ?_)
local macro_rules | `(tactic| walk_at "ob") => `(tactic| first | exact trivial | assumption | (with_reducible rfl) | omega | decide | exact mul_okL (by omega) (by omega) | exact mul_okR (by omega) (by omega) | exact mul_ok (by assumption) (by assumption) (by decide) | (unfold sizeLine; omega))
local macro_rules | `(tactic| walk_at "cj") => `(tactic| with_reducible first | refine And.intro (by walk_at "ob") ?_ | refine x_l0 ?_ | refine x_l1 ?_ | refine x_l2 ?_ | refine x_l3 ?_ | refine x_fL (by omega) (by omega) ?_ | refine x_rg (by omega) (by omega) ?_ | refine x_lastI (by omega) ?_ | refine x_last (by omega) ?_ | refine x_idx (by omega) (by omega) ?_ | refine x_ix (by omega) (by omega) ?_)
local macro_rules | `(tactic| walk_at "sn") => `(tactic| with_reducible first | refine st_asg ?_ | refine st_own ?_ | refine st_frz ?_ | refine st_fgt ?_ | refine st_fst ?_ | refine st_ret ?_ | refine st_retV ?_ | refine st_app ?_ | refine st_sto ?_ | refine st_appMv ?_ | refine st_ali ?_ | refine st_unp ?_ | refine st_forD ?_ | refine st_retN ?_ | refine st_brk ?_ | refine st_cnt ?_ | refine st_pas ?_ | refine st_ex ?_ | refine st_for ?_ | refine st_nil ?_)
local macro_rules | `(tactic| walk_at "gn") => `(tactic| (repeat (first | walk_at "cj" | walk_at "sn" | walk_at "wp")))
local macro_rules | `(tactic| walk_at "go") => `(tactic| (repeat (first | walk_at "cj" | walk_at "st" | walk_at "wp")))

theorem suA_lin2 {c : Int} {C : Nat} (hc : c.natAbs ≤ C) : ∀ {n : Nat} {f g : Nat → Int}, KN.suA n (fun k => f k + c * g k) ≤ KN.suA n f + C * KN.suA n g
  | 0, f, g => Nat.zero_le _
  | n + 1, f, g => by
    have ih := suA_lin2 hc (n := n) (f := f) (g := g)
    show KN.suA n (fun k => f k + c * g k) + (f n + c * g n).natAbs ≤ (KN.suA n f + (f n).natAbs) + C * (KN.suA n g + (g n).natAbs)
    have h1 := Int.natAbs_add_le (f n) (c * g n)
    rw [Int.natAbs_mul] at h1
    have h2 : c.natAbs * (g n).natAbs ≤ C * (g n).natAbs := Nat.mul_le_mul_right _ hc
    rw [Nat.mul_add]
    omega
/-- a row added to another one -/
theorem ker_addrow {m n a b : Nat} {A : Nat → Nat → Int} {c : Int} {y : Nat → Int} (ha : a < m) (hb : b < m) (hab : b ≠ a) : KN.Ker m n (fun i => if i = a then fun k => A a k + c * A b k else A i) y ↔ KN.Ker m n A y := by
  have e : KN.dot n (fun k => A a k + c * A b k) y = KN.dot n (A a) y + c * KN.dot n (A b) y := by
    have := KN.dot_lin (n := n) (f := A a) (g := A b) (y := y) (a := 1) (b := c)
    simp only [Int.one_mul] at this
    exact this
  constructor
  · intro h
    have hb0 := h b hb
    dsimp only at hb0
    rw [if_neg hab] at hb0
    intro i hi
    by_cases q : i = a
    · subst q
      have := h i hi
      dsimp only at this
      rw [if_pos rfl, e, hb0, Int.mul_zero, Int.add_zero] at this
      exact this
    · have := h i hi
      dsimp only at this
      rw [if_neg q] at this
      exact this
  · intro h i hi
    dsimp only
    by_cases q : i = a
    · rw [if_pos q, e, h a ha, h b hb, Int.mul_zero]; rfl
    · rw [if_neg q]; exact h i hi
def addR (A : Int → Int → Int) (a b c : Int) : Int → Int → Int := fun i => if i = a then fun k => A a k + c * A b k else A i
theorem addR_cN (A : Int → Int → Int) (a b : Nat) (c : Int) : cN (addR A a b c) = fun i => if i = a then fun k => cN A a k + c * cN A b k else cN A i := by
  funext i k
  show addR A a b c i k = _
  unfold addR
  by_cases e : (i : Int) = a
  · have e2 : i = a := by omega
    rw [if_pos e, if_pos e2]
  · have e2 : ¬ i = a := by omega
    rw [if_neg e, if_neg e2]
theorem c_mix {t B : Nat} {ns : List Int} {m n : Nat} {A : Int → Int → Int} {Q : T → Prop} (hn : n ≤ 60) (hm : m ≤ 60) (hB : ∀ i : Nat, i < m → su n (A i) ≤ B) (hQ : ∀ A' : Int → Int → Int, (∀ y, KN.Ker m n (cN A') y ↔ KN.Ker m n (cN A) y) → (∀ i : Nat, i < m → su n (A' i) ≤ 16 * B) → Q (.lst (rowsL m n A'))) : Cl (gam tbl (t + 2) 19 [.scr ns, .lst (rowsL m n A)] Q) := by
  refine enterO rfl rfl rfl ?_
  simp only [d19, entry, entO]
  walk_at "gn"
  refine c_cell (n := t) (by decide) (by decide) ?_
  walk_at "gn"
  refine c_digE (n := t) (sizes := List.replicate 60 5) rfl (by decide) (by decide) fun d1 hd1 => ?_
  obtain ⟨l1, b1⟩ := hd1.rep
  have b1 : ∀ k : Int, 0 ≤ k → k < 60 → 0 ≤ gi d1 k ∧ gi d1 k < 5 := b1
  walk_at "gn"
  refine c_cell (n := t) (by decide) (by decide) ?_
  walk_at "gn"
  refine c_digE (n := t) (sizes := List.replicate 60 5) rfl (by decide) (by decide) fun d2 hd2 => ?_
  obtain ⟨l2, b2⟩ := hd2.rep
  have b2 : ∀ k : Int, 0 ≤ k → k < 60 → 0 ≤ gi d2 k ∧ gi d2 k < 5 := b2
  walk_at "gn"
  simp only [Int.toNat_natCast]
  have step : ∀ (W : Int → Int → Int) (a b : Nat) (c : Int), a < m → b < m → b ≠ a → (∀ y, KN.Ker m n (cN W) y ↔ KN.Ker m n (cN A) y) → ∀ y, KN.Ker m n (cN (addR W a b c)) y ↔ KN.Ker m n (cN A) y := fun W a b c ha hb hab h y => by
    rw [addR_cN, ker_addrow ha hb hab]
    exact h y
  have srow : ∀ (W : Int → Int → Int) (a b : Nat) (c : Int) (X : Nat), (-2 < c ∧ c < 4) → su n (W a) ≤ X → su n (W b) ≤ X → su n (addR W a b c a) ≤ 4 * X := fun W a b c X hc h1 h2 => by
    unfold addR
    rw [if_pos rfl]
    have := suA_lin2 (c := c) (C := 3) (by omega) (n := n) (f := cV (W a)) (g := cV (W b))
    have e : cV (fun k => W a k + c * W b k) = fun k => cV (W a) k + c * cV (W b) k := rfl
    show KN.suA n (cV _) ≤ _
    rw [e]
    have h1 : KN.suA n (cV (W a)) ≤ X := h1
    have h2 : KN.suA n (cV (W b)) ≤ X := h2
    omega
  have menu : ∀ x ∈ ([0, 0, 1, -1, 3] : List Int), -2 < x ∧ x < 4 := by decide
  have rset : ∀ (W : Int → Int → Int) (a b c : Int), ((rgL 0 (m : Int)).map fun i => if i = a then T.lst (iL (fL n fun k => W a k + c * W b k)) else T.lst (iL (fL n (W i)))) = rowsL m n (addR W a b c) := fun W a b c => rg_congr fun i _ _ => by
    unfold addR
    split <;> rfl
  by_cases m0 : m = 0
  · subst m0
    refine forL_range0 (by omega) _ ?_
    walk_at "gn"
    refine forL_range0 (by decide) _ ?_
    walk_at "gn"
    exact hQ A (fun y => Iff.rfl) fun i hi => absurd hi (Nat.not_lt_zero i)
  refine forL_range (fun j env => 0 ≤ j ∧ ∃ W : Int → Int → Int, (∀ y, KN.Ker m n (cN W) y ↔ KN.Ker m n (cN A) y) ∧ (∀ i : Nat, i < m → su n (W i) ≤ if (i : Int) < j then 4 * B else B) ∧ env = [.sh (.scr ns), .ow 1 (.lst (rowsL m n W)), .sh (.lst (iL d1)), .sh (.lst (iL d2)), .sh (.lst (iL [0, 0, 1, -1, 3])), .em, .em]) (by omega) _ ⟨by decide, A, fun y => Iff.rfl, fun i hi => by rw [if_neg (by omega)]; exact hB i hi, rfl⟩ ?_ ?_
  · rintro j env K j0 j1 ⟨_, W, hW, hs, rfl⟩ hK
    obtain ⟨j, rfl⟩ := Int.eq_ofNat_of_zero_le j0
    have bj := b1 j j0 (by omega)
    walk_at "gn"
    refine pick_of [0, 0, 1, -1, 3] _ _ bj.1 bj.2 fun c hc => ?_
    have hc := menu c hc
    refine c_add (t := t) (by omega) (by omega) ?_
    walk_at "gn"
    simp only [rg_set j0]
    rw [rset W j ((j : Int) + 1) c]
    refine hK _ ⟨by omega, addR W j (j + 1) c, fun y => ?_, fun i hi => ?_, rfl⟩
    · have := step W j (j + 1) c (by omega) (by omega) (by omega) hW y
      rw [show ((j + 1 : Nat) : Int) = (j : Int) + 1 by omega] at this
      exact this
    · by_cases e : i = j
      · subst e
        rw [if_pos (by omega)]
        have h1 := hs i hi
        have h2 := hs (i + 1) (by omega)
        rw [if_neg (by omega)] at h1 h2
        have := srow W i (i + 1) c B hc h1 h2
        rw [show ((i + 1 : Nat) : Int) = (i : Int) + 1 by omega] at this
        exact this
      · have q := hs i hi
        have e2 : addR W j (j + 1) c i = W i := by unfold addR; rw [if_neg (by omega)]
        rw [e2]
        by_cases c1 : (i : Int) < j
        · rw [if_pos c1] at q; rw [if_pos (by omega)]; exact q
        · rw [if_neg c1] at q; rw [if_neg (by omega)]; exact q
  · rintro env ⟨_, W, hW, hs, rfl⟩
    have hs4 : ∀ i : Nat, i < m → su n (W i) ≤ 4 * B := fun i hi => by
      have q := hs i hi
      split at q <;> omega
    walk_at "gn"
    simp only [Int.toNat_natCast]
    refine forL_range (fun j env => 0 ≤ j ∧ ∃ W : Int → Int → Int, (∀ y, KN.Ker m n (cN W) y ↔ KN.Ker m n (cN A) y) ∧ (∀ i : Nat, i < m → su n (W i) ≤ if (i : Int) < m - j then 4 * B else 16 * B) ∧ env = [.sh (.scr ns), .ow 1 (.lst (rowsL m n W)), .sh (.lst (iL d1)), .sh (.lst (iL d2)), .sh (.lst (iL [0, 0, 1, -1, 3])), .em, .em]) (by omega) _ ⟨by decide, W, hW, fun i hi => by rw [if_pos (by omega)]; exact hs4 i hi, rfl⟩ ?_ ?_
    · rintro j env K j0 j1 ⟨_, W, hW, hs, rfl⟩ hK
      obtain ⟨j, rfl⟩ := Int.eq_ofNat_of_zero_le j0
      have bj := b2 ((m : Int) - 1 - j) (by omega) (by omega)
      walk_at "gn"
      simp only [Int.toNat_natCast]
      walk_at "gn"
      refine pick_of [0, 0, 1, -1, 3] _ _ bj.1 bj.2 fun c hc => ?_
      have hc := menu c hc
      refine c_add (t := t) (by omega) (by omega) ?_
      walk_at "gn"
      simp only [rg_set (show 0 ≤ (m : Int) - 1 - j by omega)]
      rw [rset W ((m : Int) - 1 - j) ((m : Int) - 1 - j - 1) c]
      obtain ⟨a, ea⟩ := Int.eq_ofNat_of_zero_le (show 0 ≤ (m : Int) - 1 - j by omega)
      obtain ⟨b, eb⟩ := Int.eq_ofNat_of_zero_le (show 0 ≤ (m : Int) - 1 - j - 1 by omega)
      rw [eb, ea]
      refine hK _ ⟨by omega, addR W a b c, step W a b c (by omega) (by omega) (by omega) hW, fun i hi => ?_, rfl⟩
      by_cases e : i = a
      · subst e
        rw [if_neg (by omega)]
        have h1 := hs i hi
        have h2 := hs b (by omega)
        rw [if_pos (by omega)] at h1 h2
        have := srow W i b c (4 * B) hc h1 h2
        omega
      · have q := hs i hi
        have e2 : addR W a b c i = W i := by unfold addR; rw [if_neg (by omega)]
        rw [e2]
        by_cases c1 : (i : Int) < m - j
        · rw [if_pos c1] at q
          split <;> omega
        · rw [if_neg c1] at q; rw [if_neg (by omega)]; exact q
    · rintro env ⟨_, W, hW, hs, rfl⟩
      walk_at "gn"
      exact hQ W hW fun i hi => by have q := hs i hi; split at q <;> omega
end K08

namespace K08
open PySem PySem.Spec PyProof.Rows L2 PT
local macro_rules | `(tactic| walk_at "wp") => `(tactic| simp only [↓PT.q_callK, PT.q_pk1, PT.q_pk10, PT.q_pk01, PT.wpE, PT.wpEs, PT.wpO, PT.wpB, PT.wpC, PT.wpI, PT.wpIS, PT.q_var, PT.q_vsh, PT.q_vow, PT.q_vbr, PT.q_val, PT.Env.get, PT.takes, PT.taksO, PT.taksF, PT.takF, PT.entO, PT.keeps, PT.bltT, PT.flatIf, PT.bwT, PT.wpFrz, PT.wpRetV, PT.wpL, PT.lvT, PT.nxtP, PT.wpMv, PT.Env.store, PT.Env.put, PT.Env.puts, PT.Env.wipe, PT.Env.mut, PT.Sl.unroot, PT.Sl.muted, PT.q_og0, PT.q_ogS, q_seq, q_idx, q_len, q_lst, q_tup, q_isin, q_add, q_sub, q_mul, q_fdiv, q_fdivN, q_fdivW, q_mod, q_pow, q_addL, q_mulL, q_addT, q_lt, q_le, q_gt, q_ge, q_eq, q_ne, q_eqLL, q_neLL, q_eqTT, q_neTT, q_eqLT, q_neLT, q_eqTL, q_neTL, q_eqB, q_neB, q_isN, q_notN, q_in_L, q_in_T, q_notInL, q_notInT, q_idxL, q_idxT, q_idxS, q_slc, q_slcT, q_fst, q_end, q_neg, q_tru, q_asI, q_asIs0, q_asIs1, q_lenL, q_lenT, q_lenS, q_abs, q_maxI, q_minI, q_maxL, q_maxT, q_minL, q_minT, q_sumL, q_sumT, q_all, q_any, q_intI, q_intB, q_tupL, q_tupT, q_lstL, q_lstT, q_lstS, q_rng1, q_rng2, q_seqL, q_seqT, q_seqS, q_gcd, q_isiI, q_isiB, q_isiL, q_isiT, q_isiN, q_isiS, q_unp, q_take0, q_takeF, q_takeI, q_keep0, q_keepF, q_sl0, q_slF, q_slB, q_it0, q_itF, q_itB, q_sh0, q_sh1, q_sh2, q_shF, q_frz0, q_frzF, q_asgN, q_asgF, q_rd0, q_rdF, PT.q_put0, PT.It.slots, List.map_cons, List.map_nil, List.append_nil, List.nil_append, List.cons_append, List.length_cons, List.length_nil, List.length_map, List.zip_cons_cons, List.zip_nil_left, PT.rgL_len, PT.fL_len, Int.sub_zero, List.any_cons, List.any_nil, PT.kdIs, Bool.or_false, Bool.false_or, Bool.or_true, Bool.and_true, Bool.true_and, Bool.not_true, Bool.not_false, Bool.not_eq_true', decide_eq_true_eq, decide_eq_false_iff_not, Bool.false_eq_true, Bool.true_eq_false, reduceCtorEq, if_true, if_false, ite_not, true_and, and_true, eq_self, len_iL, decide_true, decide_false, Nat.reduceAdd, Nat.reduceSub, reduceIte, Nat.reduceLT, Nat.reduceEqDiff, ne_eq, not_false_eq_true, not_true_eq_false, PT.T.isNon, true_or, false_or, Nat.le_refl, Nat.lt_irrefl, Nat.zero_lt_succ, Nat.not_lt_zero, PT.T.flat, List.all_cons, List.all_nil, List.replicate, PT.q_at0, Option.some.injEq, T.lst.injEq, exists_and_left, exists_eq_left, exists_eq_left', rd0, rd1, rd2, rd3, rd4, rd5, rd6, rd7, rd8, rd9, rd10, rd11, rd12, rd13, rd14, rd15, rd16, rd17, rd18, rd19, rd20, rd21, rd22, rd23])
local macro_rules | `(tactic| walk_at "st") => `(tactic| with_reducible first | refine st_asg ?_ | refine st_own ?_ | refine st_frz ?_ | refine st_fgt ?_ | refine st_fst ?_ | refine st_ret ?_ | refine st_retV ?_ | refine st_app ?_ | refine st_sto ?_ | refine st_appMv ?_ | refine st_ali ?_ | refine st_unp ?_ | refine st_forD ?_ | refine st_retN ?_ | refine st_brk ?_ | refine st_cnt ?_ | refine st_pas ?_ | refine st_ex ?_ | refine st_ite ?_ | refine st_for ?_ | refine st_nil ?_)
local macro_rules | `(tactic| walk_at "ob") => `(tactic| first | exact trivial | assumption | (with_reducible rfl) | omega | decide | exact mul_okL (by omega) (by omega) | exact mul_okR (by omega) (by omega) | exact mul_ok (by assumption) (by assumption) (by decide) | (unfold sizeLine; omega))
local macro_rules | `(tactic| walk_at "cj") => `(tactic| with_reducible first | refine And.intro (by walk_at "ob") ?_ | refine x_l0 ?_ | refine x_l1 ?_ | refine x_l2 ?_ | refine x_l3 ?_ | refine x_fL (by omega) (by omega) ?_ | refine x_rg (by omega) (by omega) ?_ | refine x_lastI (by omega) ?_ | refine x_last (by omega) ?_ | refine x_idx (by omega) (by omega) ?_ | refine x_ix (by omega) (by omega) ?_)
local macro_rules | `(tactic| walk_at "sn") => `(tactic| with_reducible first | refine st_asg ?_ | refine st_own ?_ | refine st_frz ?_ | refine st_fgt ?_ | refine st_fst ?_ | refine st_ret ?_ | refine st_retV ?_ | refine st_app ?_ | refine st_sto ?_ | refine st_appMv ?_ | refine st_ali ?_ | refine st_unp ?_ | refine st_forD ?_ | refine st_retN ?_ | refine st_brk ?_ | refine st_cnt ?_ | refine st_pas ?_ | refine st_ex ?_ | refine st_for ?_ | refine st_nil ?_)
local macro_rules | `(tactic| walk_at "gn") => `(tactic| (repeat (first | walk_at "cj" | walk_at "sn" | walk_at "wp")))
local macro_rules | `(tactic| walk_at "go") => `(tactic| (repeat (first | walk_at "cj" | walk_at "st" | walk_at "wp")))

/-! ### lists of rows -/
abbrev rowF (n : Int) (f : Int → Int) : T := .lst (iL (fL n f))
abbrev rowsF (n : Int) (L : List (Int → Int)) : List T := L.map (rowF n)
def KerL (n : Nat) (L : List (Int → Int)) (y : Nat → Int) : Prop := ∀ f ∈ L, KN.dot n (cV f) y = 0
def pd : List Nat → Nat
  | [] => 1
  | x :: l => x * pd l
theorem pd_append : ∀ a b : List Nat, pd (a ++ b) = pd a * pd b
  | [], b => (Nat.one_mul _).symm
  | x :: a, b => by
    show x * pd (a ++ b) = x * pd a * pd b
    rw [pd_append a b, Nat.mul_assoc]
theorem pd_perm {a b : List Nat} (h : a.Perm b) : pd a = pd b := by
  induction h with
  | nil => rfl
  | cons x _ ih => show x * _ = x * _; rw [ih]
  | swap x y l => show y * (x * pd l) = x * (y * pd l); rw [Nat.mul_left_comm]
  | trans _ _ h1 h2 => exact h1.trans h2
theorem pd_le {B : Nat} : ∀ {l : List Nat}, (∀ x ∈ l, x ≤ B) → pd l ≤ B ^ l.length
  | [], _ => Nat.le_refl 1
  | x :: l, h => by
    show x * pd l ≤ B ^ (l.length + 1)
    rw [Nat.pow_succ, Nat.mul_comm]
    exact Nat.mul_le_mul (pd_le fun y hy => h y (List.mem_cons_of_mem _ hy)) (h x List.mem_cons_self)
theorem pd_set {X x : Nat} : ∀ {l : List Nat} {a y : Nat}, l[a]? = some y → x ≤ y * X → pd (l.set a x) ≤ pd l * X
  | [], a, y, h, _ => by cases h
  | z :: l, 0, y, h, hx => by
    cases h
    show x * pd l ≤ z * pd l * X
    calc x * pd l ≤ z * X * pd l := Nat.mul_le_mul_right _ hx
      _ = z * pd l * X := by rw [Nat.mul_assoc, Nat.mul_comm X, Nat.mul_assoc]
  | z :: l, a + 1, y, h, hx => by
    show z * pd (l.set a x) ≤ z * pd l * X
    rw [Nat.mul_assoc]
    exact Nat.mul_le_mul_left _ (pd_set (l := l) h hx)
theorem pd_mem : ∀ {l : List Nat}, (∀ x ∈ l, 1 ≤ x) → ∀ x ∈ l, x ≤ pd l
  | [], _, x, h => by cases h
  | y :: l, h1, x, h => by
    have p : 1 ≤ pd l := by
      have : ∀ {l : List Nat}, (∀ x ∈ l, 1 ≤ x) → 1 ≤ pd l := by
        intro l
        induction l with
        | nil => exact fun _ => Nat.le_refl 1
        | cons z l ih => exact fun h => Nat.mul_le_mul (h z List.mem_cons_self) (ih fun x hx => h x (List.mem_cons_of_mem _ hx))
      exact this fun x hx => h1 x (List.mem_cons_of_mem _ hx)
    show x ≤ y * pd l
    rcases List.mem_cons.mp h with e | e
    · subst e; exact Nat.le_mul_of_pos_right _ p
    · exact Nat.le_trans (pd_mem (fun x hx => h1 x (List.mem_cons_of_mem _ hx)) x e) (Nat.le_mul_of_pos_left _ (h1 y List.mem_cons_self))
theorem pr_pd : ∀ (l : List Nat), KN.pr l.length (fun c => l.getD c 0) = pd l
  | [] => rfl
  | x :: l => by
    show x * KN.pr l.length (fun c => l.getD c 0) = x * pd l
    rw [pr_pd l]
def wL (n : Nat) (L : List (Int → Int)) : List Nat := L.map fun f => 1 + 2 * su n f
/-- what is asked of the rows: n wide, place p, out of L0 -/
structure Mo (n : Nat) (p : Int) (L0 L : List (Int → Int)) : Prop where
  bk : ∀ y, KerL n L y → KerL n L0 y
  fw : ∀ y : Nat → Int, (∀ k : Nat, p < k → k < n → y k = 0) → KerL n L0 y → KerL n L y
structure LineOk (n : Nat) (p : Int) (L0 : List (Int → Int)) (f : Int → Int) : Prop where
  ok : ∀ y : Nat → Int, (∀ k : Nat, p < k → k < n → y k = 0) → KerL n L0 y → KN.dot n (cV f) y = 0
  sz : su n f ≤ 2 ^ 96
theorem Mo.snoc {n : Nat} {p : Int} {L0 L : List (Int → Int)} {f : Int → Int} (h : Mo n p L0 L) (hf : LineOk n p L0 f) : Mo n p L0 (L ++ [f]) :=
  ⟨fun y q => h.bk y fun g hg => q g (List.mem_append_left _ hg), fun y s q g hg => by
    rcases List.mem_append.mp hg with z | z
    · exact h.fw y s q g z
    · rw [List.mem_singleton.mp z]; exact hf.ok y s q⟩
theorem Mo.perm {n : Nat} {p : Int} {L0 L L' : List (Int → Int)} (h : Mo n p L0 L) (e : ∀ f, f ∈ L' ↔ f ∈ L) : Mo n p L0 L' :=
  ⟨fun y q => h.bk y fun g hg => q g ((e g).mpr hg), fun y s q g hg => h.fw y s q g ((e g).mp hg)⟩
theorem Mo.scale {n : Nat} {p c : Int} {L0 L : List (Int → Int)} {a : Nat} {f : Int → Int} (h : Mo n p L0 L) (ha : L[a]? = some f) (hc : c ≠ 0) : Mo n p L0 (L.set a fun k => f k * c) := by
  have e : ∀ y, KN.dot n (cV fun k => f k * c) y = c * KN.dot n (cV f) y := fun y => by
    unfold KN.dot
    rw [← LP.sumN_mul]
    exact LP.sumN_congr fun k _ => by show f k * c * y k = c * (f k * y k); rw [Int.mul_comm (f k), Int.mul_assoc]
  have la : a < L.length := (List.getElem?_eq_some_iff.mp ha).1
  have ea : L[a] = f := (List.getElem?_eq_some_iff.mp ha).2
  refine ⟨fun y q => h.bk y fun g hg => ?_, fun y s q g hg => ?_⟩
  · obtain ⟨i, hi, rfl⟩ := List.mem_iff_getElem.mp hg
    by_cases z : i = a
    · subst z
      have := q _ (List.mem_of_getElem? (show (L.set i fun k => f k * c)[i]? = some _ by rw [List.getElem?_set_self hi]))
      rw [e] at this
      rw [ea]
      rcases Int.mul_eq_zero.mp this with w | w
      · exact absurd w hc
      · exact w
    · exact q _ (List.mem_of_getElem? (show (L.set a fun k => f k * c)[i]? = some L[i] by rw [List.getElem?_set_ne (Ne.symm z)]; exact List.getElem?_eq_getElem hi))
  · rcases List.mem_or_eq_of_mem_set hg with w | w
    · exact h.fw y s q g w
    · rw [w, e, h.fw y s q f (by rw [← ea]; exact List.getElem_mem la), Int.mul_zero]
theorem su_scale {n : Nat} {f : Int → Int} {c : Int} : su n (fun k => f k * c) = su n f * c.natAbs := by
  have : ∀ n : Nat, su n (fun k => f k * c) = su n f * c.natAbs := by
    intro n
    induction n with
    | zero => exact (Nat.zero_mul _).symm
    | succ n ih =>
      show su n (fun k => f k * c) + (f n * c).natAbs = (su n f + (f n).natAbs) * c.natAbs
      rw [ih, Int.natAbs_mul, Nat.add_mul]
  exact this n
end K08

namespace K08
open PySem PySem.Spec PyProof.Rows L2 PT
local macro_rules | `(tactic| walk_at "wp") => `(tactic| simp only [↓PT.q_callK, PT.q_pk1, PT.q_pk10, PT.q_pk01, PT.wpE, PT.wpEs, PT.wpO, PT.wpB, PT.wpC, PT.wpI, PT.wpIS, PT.q_var, PT.q_vsh, PT.q_vow, PT.q_vbr, PT.q_val, PT.Env.get, PT.takes, PT.taksO, PT.taksF, PT.takF, PT.entO, PT.keeps, PT.bltT, PT.flatIf, PT.bwT, PT.wpFrz, PT.wpRetV, PT.wpL, PT.lvT, PT.nxtP, PT.wpMv, PT.Env.store, PT.Env.put, PT.Env.puts, PT.Env.wipe, PT.Env.mut, PT.Sl.unroot, PT.Sl.muted, PT.q_og0, PT.q_ogS, q_seq, q_idx, q_len, q_lst, q_tup, q_isin, q_add, q_sub, q_mul, q_fdiv, q_fdivN, q_fdivW, q_mod, q_pow, q_addL, q_mulL, q_addT, q_lt, q_le, q_gt, q_ge, q_eq, q_ne, q_eqLL, q_neLL, q_eqTT, q_neTT, q_eqLT, q_neLT, q_eqTL, q_neTL, q_eqB, q_neB, q_isN, q_notN, q_in_L, q_in_T, q_notInL, q_notInT, q_idxL, q_idxT, q_idxS, q_slc, q_slcT, q_fst, q_end, q_neg, q_tru, q_asI, q_asIs0, q_asIs1, q_lenL, q_lenT, q_lenS, q_abs, q_maxI, q_minI, q_maxL, q_maxT, q_minL, q_minT, q_sumL, q_sumT, q_all, q_any, q_intI, q_intB, q_tupL, q_tupT, q_lstL, q_lstT, q_lstS, q_rng1, q_rng2, q_seqL, q_seqT, q_seqS, q_gcd, q_isiI, q_isiB, q_isiL, q_isiT, q_isiN, q_isiS, q_unp, q_take0, q_takeF, q_takeI, q_keep0, q_keepF, q_sl0, q_slF, q_slB, q_it0, q_itF, q_itB, q_sh0, q_sh1, q_sh2, q_shF, q_frz0, q_frzF, q_asgN, q_asgF, q_rd0, q_rdF, PT.q_put0, PT.It.slots, List.map_cons, List.map_nil, List.append_nil, List.nil_append, List.cons_append, List.length_cons, List.length_nil, List.length_map, List.zip_cons_cons, List.zip_nil_left, PT.rgL_len, PT.fL_len, Int.sub_zero, List.any_cons, List.any_nil, PT.kdIs, Bool.or_false, Bool.false_or, Bool.or_true, Bool.and_true, Bool.true_and, Bool.not_true, Bool.not_false, Bool.not_eq_true', decide_eq_true_eq, decide_eq_false_iff_not, Bool.false_eq_true, Bool.true_eq_false, reduceCtorEq, if_true, if_false, ite_not, true_and, and_true, eq_self, len_iL, decide_true, decide_false, Nat.reduceAdd, Nat.reduceSub, reduceIte, Nat.reduceLT, Nat.reduceEqDiff, ne_eq, not_false_eq_true, not_true_eq_false, PT.T.isNon, true_or, false_or, Nat.le_refl, Nat.lt_irrefl, Nat.zero_lt_succ, Nat.not_lt_zero, PT.T.flat, List.all_cons, List.all_nil, List.replicate, PT.q_at0, Option.some.injEq, T.lst.injEq, exists_and_left, exists_eq_left, exists_eq_left', rd0, rd1, rd2, rd3, rd4, rd5, rd6, rd7, rd8, rd9, rd10, rd11, rd12, rd13, rd14, rd15, rd16, rd17, rd18, rd19, rd20, rd21, rd22, rd23])
local macro_rules | `(tactic| walk_at "st") => `(tactic| with_reducible first | refine st_asg ?_ | refine st_own ?_ | refine st_frz ?_ | refine st_fgt ?_ | refine st_fst ?_ | refine st_ret ?_ | refine st_retV ?_ | refine st_app ?_ | refine st_sto ?_ | refine st_appMv ?_ | refine st_ali ?_ | refine st_unp ?_ | refine st_forD ?_ | refine st_retN ?_ | refine st_brk ?_ | refine st_cnt ?_ | refine st_pas ?_ | refine st_ex ?_ | refine st_ite ?_ | refine st_for ?_ | refine st_nil ?_)
local macro_rules | `(tactic| walk_at "ob") => `(tactic| first | exact trivial | assumption | (with_reducible rfl) | omega | decide | exact mul_okL (by omega) (by omega) | exact mul_okR (by omega) (by omega) | exact mul_ok (by assumption) (by assumption) (by decide) | (unfold sizeLine; omega))
local macro_rules | `(tactic| walk_at "cj") => `(tactic| with_reducible first | refine And.intro (by walk_at "ob") ?_ | refine x_l0 ?_ | refine x_l1 ?_ | refine x_l2 ?_ | refine x_l3 ?_ | refine x_fL (by omega) (by omega) ?_ | refine x_rg (by omega) (by omega) ?_ | refine x_lastI (by omega) ?_ | refine x_last (by omega) ?_ | refine x_idx (by omega) (by omega) ?_ | refine x_ix (by omega) (by omega) ?_)
local macro_rules | `(tactic| walk_at "sn") => `(tactic| with_reducible first | refine st_asg ?_ | refine st_own ?_ | refine st_frz ?_ | refine st_fgt ?_ | refine st_fst ?_ | refine st_ret ?_ | refine st_retV ?_ | refine st_app ?_ | refine st_sto ?_ | refine st_appMv ?_ | refine st_ali ?_ | refine st_unp ?_ | refine st_forD ?_ | refine st_retN ?_ | refine st_brk ?_ | refine st_cnt ?_ | refine st_pas ?_ | refine st_ex ?_ | refine st_for ?_ | refine st_nil ?_)
local macro_rules | `(tactic| walk_at "gn") => `(tactic| (repeat (first | walk_at "cj" | walk_at "sn" | walk_at "wp")))
local macro_rules | `(tactic| walk_at "go") => `(tactic| (repeat (first | walk_at "cj" | walk_at "st" | walk_at "wp")))

def P20a (ns : List Int) (n p : Int) (N : Nat) (ds : List Int) (L0 L : List (Int → Int)) (j kd : Int) (env : PT.Env) : Prop := ∃ (f : Int → Int) (s : Sl), (s = .em ∨ ∃ x, s = .sh x) ∧ LineOk N p L0 f ∧ env = [.sh (.scr ns), .sh (.lst (rowsF n L0)), .sh (.int n), .sh (.int p), .sh (.lst (iL ds)), .ow 1 (.lst (rowsF n L)), .sh (.int j), .sh (.int kd), .ow 1 (.lst (iL (fL n f))), .em, .em, s, .em, .em]
theorem mod_ix {i : Int} {l : Nat} (h : 0 < l) : 0 ≤ i % (l : Int) ∧ i % (l : Int) < l := mod_ok (by omega)
theorem F_get {n : Int} {L : List (Int → Int)} {k : Int} {R : T → Prop} (h0 : 0 ≤ k) (h1 : k < L.length) (q : ∀ f, L[k.toNat]? = some f → R (rowF n f)) : ∃ t, atI (rowsF n L) k = some t ∧ R t := by
  have e : L[k.toNat]? = some (L[k.toNat]'(by omega)) := List.getElem?_eq_getElem (by omega)
  exact ⟨_, atI_at h0 (by rw [List.getElem?_map, e]; rfl), q _ e⟩
theorem line_zero {n : Nat} {p : Int} {L0 : List (Int → Int)} : LineOk n p L0 fun _ => 0 := by
  refine ⟨fun y _ _ => ?_, ?_⟩
  · unfold KN.dot
    exact LP.sumN_zero fun k _ => Int.zero_mul _
  · have := suA_le (B := 0) (n := n) (f := cV fun _ => 0) fun j _ => Nat.le_refl 0
    show KN.suA n _ ≤ _
    omega
theorem line_add {n : Nat} {p c : Int} {L0 : List (Int → Int)} {f g : Int → Int} (hf : f ∈ L0) (hg : g ∈ L0) (hs : ∀ f ∈ L0, su n f ≤ 2 ^ 94) (hc : -4 < c ∧ c < 4) : LineOk n p L0 fun k => f k + c * g k := by
  refine ⟨fun y _ q => ?_, ?_⟩
  · have := KN.dot_lin (n := n) (f := cV f) (g := cV g) (y := y) (a := 1) (b := c)
    simp only [Int.one_mul] at this
    show KN.dot n (fun k => cV f k + c * cV g k) y = 0
    rw [this, q f hf, q g hg, Int.mul_zero]; rfl
  · have := suA_lin2 (c := c) (C := 3) (by omega) (n := n) (f := cV f) (g := cV g)
    have h1 : KN.suA n (cV f) ≤ 2 ^ 94 := hs f hf
    have h2 : KN.suA n (cV g) ≤ 2 ^ 94 := hs g hg
    show KN.suA n (fun k => cV f k + c * cV g k) ≤ _
    omega
theorem line_beh {n : Nat} {p : Int} {L0 : List (Int → Int)} {f : Int → Int} (hn : n ≤ 60) (h0 : ∀ k : Nat, k < n → (k : Int) ≤ p → f k = 0) (h1 : ∀ k : Nat, k < n → (f k).natAbs ≤ 5) : LineOk n p L0 f := by
  refine ⟨fun y s _ => ?_, ?_⟩
  · unfold KN.dot
    refine LP.sumN_zero fun k hk => ?_
    by_cases c : (k : Int) ≤ p
    · show f k * y k = 0
      rw [h0 k hk c, Int.zero_mul]
    · rw [s k (by omega) hk, Int.mul_zero]
  · have := suA_le (B := 5) (n := n) (f := cV f) h1
    show KN.suA n _ ≤ _
    have e : n * 5 ≤ 300 := by omega
    exact Nat.le_trans this (Nat.le_trans e (by decide))
def P20b (ns : List Int) (n p : Int) (N : Nat) (ds : List Int) (L0 : List (Int → Int)) (env : PT.Env) : Prop := ∃ (L : List (Int → Int)) (s r : Sl), (s = .em ∨ ∃ x, s = .sh x) ∧ (r = .em ∨ ∃ x, r = .sh x) ∧ Mo N p L0 L ∧ L.length ≤ L0.length + 3 ∧ pd (wL N L) ≤ 2 ^ (98 * (L0.length + 3) + 67) ∧ env = [.sh (.scr ns), .sh (.lst (rowsF n L0)), .sh (.int n), .sh (.int p), .sh (.lst (iL ds)), .ow 1 (.lst (rowsF n L)), .em, .em, .em, s, r, .em, .em, .em]
theorem wL_perm {n : Nat} {L L' : List (Int → Int)} (h : L.Perm L') : pd (wL n L) = pd (wL n L') := pd_perm (h.map _)
theorem c_mor {t : Nat} {ns : List Int} {n : Nat} {p : Int} {L0 : List (Int → Int)} {Q : T → Prop} (hn : n ≤ 60) (hp : 0 ≤ p ∧ p ≤ n) (hl : L0.length ≤ 60) (hs : ∀ f ∈ L0, su n f ≤ 2 ^ 94)
    (hQ : ∀ L, Mo n p L0 L → L.length ≤ L0.length + 3 → pd (wL n L) ≤ 2 ^ (98 * (L0.length + 3) + 67) → Q (.lst (rowsF n L))) : Cl (gam tbl (t + 2) 20 [.scr ns, .lst (rowsF n L0), .int n, .int p] Q) := by
  refine enter rfl rfl rfl ?_
  simp only [d20, entry]
  walk_at "gn"
  refine c_cell (n := t) (by decide) (by decide) ?_
  walk_at "gn"
  refine c_digE (n := t) (sizes := [4, 5, 60, 60, 7, 5, 60, 60, 7, 5, 60, 60, 7, 60, 2, 60, 3]) rfl (by decide) (by decide) fun ds hd => ?_
  have hlen : ds.length = 17 := hd.len
  have hb : ∀ k : Int, 0 ≤ k → k < 17 → 0 ≤ gi ds k ∧ gi ds k < gi [4, 5, 60, 60, 7, 5, 60, 60, 7, 5, 60, 60, 7, 60, 2, 60, 3] k := fun k a b => hd.gi k a (by show k < (17 : Int); omega)
  have b0 : 0 ≤ gi ds 0 ∧ gi ds 0 < 4 := hb 0 (by decide) (by decide)
  have b13 : 0 ≤ gi ds 13 ∧ gi ds 13 < 60 := hb 13 (by decide) (by decide)
  have b14 : 0 ≤ gi ds 14 ∧ gi ds 14 < 2 := hb 14 (by decide) (by decide)
  have b15 : 0 ≤ gi ds 15 ∧ gi ds 15 < 60 := hb 15 (by decide) (by decide)
  have b16 : 0 ≤ gi ds 16 ∧ gi ds 16 < 3 := hb 16 (by decide) (by decide)
  have bj : ∀ j : Int, 0 ≤ j → j < 3 → (0 ≤ gi ds (1 + 4 * j) ∧ gi ds (1 + 4 * j) < 5) ∧ (0 ≤ gi ds (2 + 4 * j) ∧ gi ds (2 + 4 * j) < 60) ∧ (0 ≤ gi ds (3 + 4 * j) ∧ gi ds (3 + 4 * j) < 60) ∧ (0 ≤ gi ds (4 + 4 * j) ∧ gi ds (4 + 4 * j) < 7) := fun j j0 j1 => by
    have : j = 0 ∨ j = 1 ∨ j = 2 := by omega
    rcases this with e | e | e <;> subst e <;> exact ⟨hb _ (by decide) (by decide), hb _ (by decide) (by decide), hb _ (by decide) (by decide), hb _ (by decide) (by decide)⟩
  walk_at "gn"
  refine forL_range (fun j env => 0 ≤ j ∧ ∃ L : List (Int → Int), Mo n p L0 L ∧ L.length = L0.length + j.toNat ∧ (∀ f ∈ L, su n f ≤ 2 ^ 96) ∧ env = [.sh (.scr ns), .sh (.lst (rowsF n L0)), .sh (.int n), .sh (.int p), .sh (.lst (iL ds)), .ow 1 (.lst (rowsF n L)), .em, .em, .em, .em, .em, .em, .em, .em]) (by omega) _ ⟨by decide, L0, ⟨fun y q => q, fun y _ q => q⟩, rfl, fun f hf => Nat.le_trans (hs f hf) (by decide), rfl⟩ ?_ ?_
  · rintro j env K j0 j1 ⟨_, L, hM, hL, hz, rfl⟩ hK
    obtain ⟨k1, k2, k3, k4⟩ := bj j j0 (by omega)
    walk_at "gn"
    refine lc_rng (fun _ => .int 0) (by omega) (fun i i0 i1 acc K2 ha hK2 => ?_) ?_
    · walk_at "gn"
      exact hK2
    rw [show ((rgL 0 (n : Int)).map fun _ => T.int 0) = iL (fL n fun _ => 0) from (iL_fL _ _).symm]
    walk_at "gn"
    refine st_mid_ite (P20a ns n p n ds L0 L j (gi ds (1 + 4 * j))) (gam_mono _ _) ?_ ?_
    · walk_at "gn"
      have other : ¬ gi ds (1 + 4 * j) = 3 → P20a ns n p n ds L0 L j (gi ds (1 + 4 * j)) [.sh (.scr ns), .sh (.lst (rowsF n L0)), .sh (.int n), .sh (.int p), .sh (.lst (iL ds)), .ow 1 (.lst (rowsF n L)), .sh (.int j), .sh (.int (gi ds (1 + 4 * j))), .ow 1 (.lst (iL (fL n fun _ => 0))), .em, .em, .em, .em, .em] := fun _ => ⟨_, .em, .inl rfl, line_zero, rfl⟩
      refine iteE (fun h1 => ?_) fun h1 => ?_
      · walk_at "gn"
        refine iteE (fun h2 => ?_) fun h2 => ?_
        · have hp0 : 0 < L0.length := by omega
          have i1 := mod_ix (i := gi ds (2 + 4 * j)) hp0
          have i2 := mod_ix (i := gi ds (3 + 4 * j)) hp0
          walk_at "gn"
          refine F_get i1.1 i1.2 fun f hf => ?_
          walk_at "gn"
          refine F_get i2.1 i2.2 fun g hg => ?_
          walk_at "gn"
          refine c_add (t := t) (by omega) (by omega) ?_
          walk_at "gn"
          exact ⟨_, _, .inr ⟨_, rfl⟩, line_add (List.mem_of_getElem? hf) (List.mem_of_getElem? hg) hs (by omega), rfl⟩
        · walk_at "gn"
          refine st_ite ?_
          walk_at "gn"
          refine iteE (fun h3 => by omega) fun h3 => ?_
          walk_at "gn"
          exact other h3
      · walk_at "gn"
        refine iteE (fun h2 => absurd h2 h1) fun h2 => ?_
        walk_at "gn"
        refine st_ite ?_
        walk_at "gn"
        refine iteE (fun h3 => ?_) fun h3 => ?_
        · walk_at "gn"
          by_cases c : (n : Int) ≤ p + 1
          · refine forL_range0 c _ ?_
            walk_at "gn"
            exact ⟨_, .em, .inl rfl, line_zero, rfl⟩
          refine forL_range (fun k env => 0 ≤ k ∧ ∃ f : Int → Int, (∀ i : Nat, i < n → (i : Int) ≤ p → f i = 0) ∧ (∀ i : Nat, i < n → (f i).natAbs ≤ 5) ∧ env = [.sh (.scr ns), .sh (.lst (rowsF n L0)), .sh (.int n), .sh (.int p), .sh (.lst (iL ds)), .ow 1 (.lst (rowsF n L)), .sh (.int j), .sh (.int (gi ds (1 + 4 * j))), .ow 1 (.lst (iL (fL n f))), .em, .em, .em, .em, .em]) (by omega) _ ⟨by omega, _, fun i _ _ => rfl, fun i _ => Nat.zero_le _, rfl⟩ ?_ ?_
          · rintro k env K2 q0 q1 ⟨_, f, f0, f1, rfl⟩ hK2
            have md := mod_ok (i := k * (1 + gi ds (4 + 4 * j)) + gi ds (2 + 4 * j)) (j := 11) (by decide)
            walk_at "gn"
            simp only [fL_set (show 0 ≤ k by omega)]
            refine hK2 _ ⟨by omega, _, fun i i0 i1 => ?_, fun i i0 => ?_, rfl⟩
            · rw [if_neg (by omega)]; exact f0 i i0 i1
            · split
              · omega
              · exact f1 i i0
          · rintro env ⟨_, f, f0, f1, rfl⟩
            walk_at "gn"
            exact ⟨_, .em, .inl rfl, line_beh hn f0 f1, rfl⟩
        · walk_at "gn"
          exact other h3
    rintro env ⟨f, s, hsl, hf, rfl⟩
    have lm : (rowsF n L).length < sizeLine := by rw [List.length_map]; unfold sizeLine; omega
    have fin : ∃ L' : List (Int → Int), Mo n p L0 L' ∧ L'.length = L0.length + (j + 1).toNat ∧ (∀ f ∈ L', su n f ≤ 2 ^ 96) ∧ rowsF n L ++ [T.lst (iL (fL n f))] = rowsF n L' := by
      refine ⟨L ++ [f], hM.snoc hf, by rw [List.length_append, hL, List.length_singleton]; omega, fun g hg => ?_, by unfold rowsF; rw [List.map_append]; rfl⟩
      rcases List.mem_append.mp hg with z | z
      · exact hz g z
      · rw [List.mem_singleton.mp z]; exact hf.sz
    obtain ⟨L', q1, q2, q3, q4⟩ := fin
    rcases hsl with rfl | ⟨x, rfl⟩
    · walk_at "gn"
      rw [q4]
      exact hK _ ⟨by omega, L', q1, q2, q3, rfl⟩
    · walk_at "gn"
      rw [q4]
      exact hK _ ⟨by omega, L', q1, q2, q3, rfl⟩
  · rintro env ⟨_, L, hM, hL, hz, rfl⟩
    walk_at "gn"
    have wb : pd (wL n L) ≤ 2 ^ (98 * (L0.length + 3)) := by
      refine Nat.le_trans (pd_le (B := 2 ^ 98) fun x hx => ?_) ?_
      · obtain ⟨f, hf, rfl⟩ := List.mem_map.mp hx
        have := hz f hf
        have e : (2 : Nat) ^ 98 = 4 * 2 ^ 96 := by decide
        have p : 1 ≤ 2 ^ 96 := by decide
        omega
      · unfold wL
        rw [List.length_map, ← Nat.pow_mul]
        exact Nat.pow_le_pow_right (by decide) (Nat.mul_le_mul_left _ (by omega))
    refine st_mid_ite (P20b ns n p n ds L0) (gam_mono _ _) ?_ ?_
    · walk_at "gn"
      refine iteE (fun h1 => ?_) fun h1 => ?_
      · have hp0 : 0 < L.length := by omega
        have i1 := mod_ix (i := gi ds 13) hp0
        walk_at "gn"
        rw [cut_from _ i1.1, cut_to _ i1.1]
        have eL : (rowsF n L).drop (gi ds 13 % L.length).toNat ++ (rowsF n L).take (gi ds 13 % L.length).toNat = rowsF n (L.drop (gi ds 13 % L.length).toNat ++ L.take (gi ds 13 % L.length).toNat) := by
          unfold rowsF
          rw [List.map_append, List.map_drop, List.map_take]
        have pm : (L.drop (gi ds 13 % L.length).toNat ++ L.take (gi ds 13 % L.length).toNat).Perm L := by
          have := List.perm_append_comm (l₁ := L.drop (gi ds 13 % L.length).toNat) (l₂ := L.take (gi ds 13 % L.length).toNat)
          rw [List.take_append_drop] at this
          exact this
        rw [eL]
        generalize L.drop (gi ds 13 % L.length).toNat ++ L.take (gi ds 13 % L.length).toNat = L2 at pm
        have l2 : L2.length = L.length := pm.length_eq
        have M2 : Mo n p L0 L2 := hM.perm fun f => pm.mem_iff
        have w2 := wL_perm (n := n) pm
        have i2 := mod_ix (i := gi ds 15) (l := L2.length) (by omega)
        refine ⟨by rw [List.length_drop, List.length_take, List.length_map]; unfold sizeLine; omega, ?_⟩
        walk_at "gn"
        refine F_get i2.1 i2.2 fun f hf => ?_
        obtain ⟨c, hc, c0, cb⟩ : ∃ c : Int, atI (iL [1, -7, 10 ^ 20 + 39]) (gi ds 16) = some (.int c) ∧ c ≠ 0 ∧ c.natAbs ≤ 2 ^ 67 := by
          obtain ⟨t, e, c, rfl, h1, h2⟩ := pick_of [1, -7, 10 ^ 20 + 39] (gi ds 16) (fun t => ∃ c : Int, t = .int c ∧ c ≠ 0 ∧ c.natAbs ≤ 2 ^ 67) b16.1 b16.2 fun x hx => ⟨x, rfl, by
            have : ∀ x ∈ ([1, -7, 10 ^ 20 + 39] : List Int), x ≠ 0 ∧ x.natAbs ≤ 2 ^ 67 := by decide
            exact this x hx⟩
          exact ⟨c, e, h1, h2⟩
        have hc : atI [T.int 1, T.int (-7), T.int (10 ^ Int.toNat 20 + 39)] (gi ds 16) = some (.int c) := hc
        have fz : ∀ k : Int, 0 ≤ k → k < n → Sz 97 (f k) := fun k k0 k1 => by
          obtain ⟨k, rfl⟩ := Int.eq_ofNat_of_zero_le k0
          have h1 := hz f (pm.mem_iff.mp (List.mem_of_getElem? hf))
          have h2 : (f k).natAbs ≤ su n f := KN.suA_at (f := cV f) (by omega)
          show (f k).natAbs < 2 ^ 97
          have e : (2 : Nat) ^ 97 = 2 * 2 ^ 96 := by decide
          have p : 1 ≤ 2 ^ 96 := by decide
          omega
        walk_at "gn"
        refine lc_fL (fun k => .int (f k * c)) (by omega) (fun k k0 k1 acc K ha hK => ?_) ?_
        · walk_at "gn"
          refine ⟨_, hc, ?_⟩
          walk_at "gn"
          refine ⟨mul_ok (fz k k0 k1) (show Sz 68 c from Nat.lt_of_le_of_lt cb (by decide)) (by decide), ?_⟩
          walk_at "gn"
          exact hK
        rw [fL_map]
        refine ⟨(gi ds 15 % L2.length).toNat, ixN_at i2.1 i2.2, ?_⟩
        walk_at "gn"
        have sc := M2.scale hf c0
        have wset : pd (wL n (L2.set (gi ds 15 % L2.length).toNat fun k => f k * c)) ≤ pd (wL n L2) * 2 ^ 67 := by
          unfold wL
          rw [List.map_set]
          refine pd_set (y := 1 + 2 * su n f) (by rw [List.getElem?_map, hf]; rfl) ?_
          rw [su_scale, Nat.add_mul, Nat.one_mul, Nat.mul_assoc]
          have h1 : 1 ≤ 2 ^ 67 := by decide
          have h2 : su n f * c.natAbs ≤ su n f * 2 ^ 67 := Nat.mul_le_mul_left _ cb
          omega
        refine ⟨L2.set (gi ds 15 % L2.length).toNat fun k => f k * c, .sh (.int (gi ds 13 % L.length)), .sh (.int (gi ds 15 % L2.length)), .inr ⟨_, rfl⟩, .inr ⟨_, rfl⟩, sc, by rw [List.length_set]; omega, ?_, ?_⟩
        · refine Nat.le_trans wset ?_
          rw [w2, Nat.pow_add]
          exact Nat.mul_le_mul_right _ wb
        · unfold rowsF
          rw [List.map_set]
      · walk_at "gn"
        exact ⟨L, .em, .em, .inl rfl, .inl rfl, hM, by omega, Nat.le_trans wb (Nat.pow_le_pow_right (by decide) (by omega)), rfl⟩
    rintro env ⟨L3, s, r, hs1, hr1, hM3, hl3, hw3, rfl⟩
    rcases hs1 with rfl | ⟨x, rfl⟩ <;> rcases hr1 with rfl | ⟨y, rfl⟩
    all_goals
      walk_at "gn"
      refine st_ite ?_
      walk_at "gn"
      refine iteE (fun h1 => ?_) fun h1 => ?_
      · walk_at "gn"
        have e1 : (rowsF n L3.reverse) = (rgL 0 (L3.length : Int)).map fun j => rowF n (L3.getD ((L3.length : Int) - 1 - j).toNat fun _ => 0) := by
          refine ext_int (by rw [List.length_map, List.length_reverse, len_rg]; omega) fun i i0 i1 => ?_
          rw [List.length_map, List.length_reverse] at i1
          rw [rg_get i0 (by omega), List.getElem?_map, List.getElem?_reverse (by omega), List.getD_eq_getElem?_getD]
          rw [show L3.length - 1 - i.toNat = ((L3.length : Int) - 1 - i).toNat by omega, List.getElem?_eq_getElem (by omega)]
          rfl
        refine lc_rng (fun j => rowF n (L3.getD ((L3.length : Int) - 1 - j).toNat fun _ => 0)) (by omega) (fun j j0 j1 acc K ha hK => ?_) ?_
        · walk_at "gn"
          refine F_get (by omega) (by omega) fun f hf => ?_
          walk_at "gn"
          have : L3.getD ((L3.length : Int) - 1 - j).toNat (fun _ => 0) = f := by rw [List.getD_eq_getElem?_getD, hf]; rfl
          rw [this] at hK
          exact hK
        rw [← e1]
        walk_at "gn"
        exact hQ L3.reverse (hM3.perm fun f => List.mem_reverse) (by rw [List.length_reverse]; omega) (by rw [wL_perm (List.reverse_perm L3)]; exact hw3)
      · walk_at "gn"
        exact hQ L3 hM3 (by omega) hw3
end K08

namespace K08
open PySem PySem.Spec PyProof.Rows L2 PT
local macro_rules | `(tactic| walk_at "wp") => `(tactic| simp only [↓PT.q_callK, PT.q_pk1, PT.q_pk10, PT.q_pk01, PT.wpE, PT.wpEs, PT.wpO, PT.wpB, PT.wpC, PT.wpI, PT.wpIS, PT.q_var, PT.q_vsh, PT.q_vow, PT.q_vbr, PT.q_val, PT.Env.get, PT.takes, PT.taksO, PT.taksF, PT.takF, PT.entO, PT.keeps, PT.bltT, PT.flatIf, PT.bwT, PT.wpFrz, PT.wpRetV, PT.wpL, PT.lvT, PT.nxtP, PT.wpMv, PT.Env.store, PT.Env.put, PT.Env.puts, PT.Env.wipe, PT.Env.mut, PT.Sl.unroot, PT.Sl.muted, PT.q_og0, PT.q_ogS, q_seq, q_idx, q_len, q_lst, q_tup, q_isin, q_add, q_sub, q_mul, q_fdiv, q_fdivN, q_fdivW, q_mod, q_pow, q_addL, q_mulL, q_addT, q_lt, q_le, q_gt, q_ge, q_eq, q_ne, q_eqLL, q_neLL, q_eqTT, q_neTT, q_eqLT, q_neLT, q_eqTL, q_neTL, q_eqB, q_neB, q_isN, q_notN, q_in_L, q_in_T, q_notInL, q_notInT, q_idxL, q_idxT, q_idxS, q_slc, q_slcT, q_fst, q_end, q_neg, q_tru, q_asI, q_asIs0, q_asIs1, q_lenL, q_lenT, q_lenS, q_abs, q_maxI, q_minI, q_maxL, q_maxT, q_minL, q_minT, q_sumL, q_sumT, q_all, q_any, q_intI, q_intB, q_tupL, q_tupT, q_lstL, q_lstT, q_lstS, q_rng1, q_rng2, q_seqL, q_seqT, q_seqS, q_gcd, q_isiI, q_isiB, q_isiL, q_isiT, q_isiN, q_isiS, q_unp, q_take0, q_takeF, q_takeI, q_keep0, q_keepF, q_sl0, q_slF, q_slB, q_it0, q_itF, q_itB, q_sh0, q_sh1, q_sh2, q_shF, q_frz0, q_frzF, q_asgN, q_asgF, q_rd0, q_rdF, PT.q_put0, PT.It.slots, List.map_cons, List.map_nil, List.append_nil, List.nil_append, List.cons_append, List.length_cons, List.length_nil, List.length_map, List.zip_cons_cons, List.zip_nil_left, PT.rgL_len, PT.fL_len, Int.sub_zero, List.any_cons, List.any_nil, PT.kdIs, Bool.or_false, Bool.false_or, Bool.or_true, Bool.and_true, Bool.true_and, Bool.not_true, Bool.not_false, Bool.not_eq_true', decide_eq_true_eq, decide_eq_false_iff_not, Bool.false_eq_true, Bool.true_eq_false, reduceCtorEq, if_true, if_false, ite_not, true_and, and_true, eq_self, len_iL, decide_true, decide_false, Nat.reduceAdd, Nat.reduceSub, reduceIte, Nat.reduceLT, Nat.reduceEqDiff, ne_eq, not_false_eq_true, not_true_eq_false, PT.T.isNon, true_or, false_or, Nat.le_refl, Nat.lt_irrefl, Nat.zero_lt_succ, Nat.not_lt_zero, PT.T.flat, List.all_cons, List.all_nil, List.replicate, PT.q_at0, Option.some.injEq, T.lst.injEq, exists_and_left, exists_eq_left, exists_eq_left', rd0, rd1, rd2, rd3, rd4, rd5, rd6, rd7, rd8, rd9, rd10, rd11, rd12, rd13, rd14, rd15, rd16, rd17, rd18, rd19, rd20, rd21, rd22, rd23])
local macro_rules | `(tactic| walk_at "st") => `(tactic| with_reducible first | refine st_asg ?_ | refine st_own ?_ | refine st_frz ?_ | refine st_fgt ?_ | refine st_fst ?_ | refine st_ret ?_ | refine st_retV ?_ | refine st_app ?_ | refine st_sto ?_ | refine st_appMv ?_ | refine st_ali ?_ | refine st_unp ?_ | refine st_forD ?_ | refine st_retN ?_ | refine st_brk ?_ | refine st_cnt ?_ | refine st_pas ?_ | refine st_ex ?_ | refine st_ite ?_ | refine st_for ?_ | refine st_nil ?_)
local macro_rules | `(tactic| walk_at "ob") => `(tactic| first | exact trivial | assumption | (with_reducible rfl) | omega | decide | exact mul_okL (by omega) (by omega) | exact mul_okR (by omega) (by omega) | exact mul_ok (by assumption) (by assumption) (by decide) | (unfold sizeLine; omega))
local macro_rules | `(tactic| walk_at "cj") => `(tactic| with_reducible first | refine And.intro (by walk_at "ob") ?_ | refine x_l0 ?_ | refine x_l1 ?_ | refine x_l2 ?_ | refine x_l3 ?_ | refine x_fL (by omega) (by omega) ?_ | refine x_rg (by omega) (by omega) ?_ | refine x_lastI (by omega) ?_ | refine x_last (by omega) ?_ | refine x_idx (by omega) (by omega) ?_ | refine x_ix (by omega) (by omega) ?_)
local macro_rules | `(tactic| walk_at "sn") => `(tactic| with_reducible first | refine st_asg ?_ | refine st_own ?_ | refine st_frz ?_ | refine st_fgt ?_ | refine st_fst ?_ | refine st_ret ?_ | refine st_retV ?_ | refine st_app ?_ | refine st_sto ?_ | refine st_appMv ?_ | refine st_ali ?_ | refine st_unp ?_ | refine st_forD ?_ | refine st_retN ?_ | refine st_brk ?_ | refine st_cnt ?_ | refine st_pas ?_ | refine st_ex ?_ | refine st_for ?_ | refine st_nil ?_)
local macro_rules | `(tactic| walk_at "gn") => `(tactic| (repeat (first | walk_at "cj" | walk_at "sn" | walk_at "wp")))
local macro_rules | `(tactic| walk_at "go") => `(tactic| (repeat (first | walk_at "cj" | walk_at "st" | walk_at "wp")))

abbrev fnL (L : List (Int → Int)) : Int → Int → Int := fun i => L.getD i.toNat fun _ => 0
theorem fnL_get {L : List (Int → Int)} {i : Nat} (h : i < L.length) : fnL L i = L[i] := by
  show L.getD (i : Int).toNat _ = _
  rw [Int.toNat_natCast, List.getD_eq_getElem?_getD, List.getElem?_eq_getElem h]
  rfl
theorem map_fnL (mk : (Int → Int) → T) (L : List (Int → Int)) : L.map mk = (rgL 0 (L.length : Int)).map fun i => mk (fnL L i) := by
  refine ext_int (by rw [List.length_map, len_rg]; omega) fun i i0 i1 => ?_
  rw [List.length_map] at i1
  rw [rg_get i0 i1, List.getElem?_map, List.getElem?_eq_getElem (by omega)]
  obtain ⟨i, rfl⟩ := Int.eq_ofNat_of_zero_le i0
  rw [fnL_get (by omega)]
  rfl
theorem ker_fnL {n : Nat} {L : List (Int → Int)} {y : Nat → Int} : KN.Ker L.length n (cN (fnL L)) y ↔ KerL n L y := by
  constructor
  · intro h f hf
    obtain ⟨i, hi, rfl⟩ := List.mem_iff_getElem.mp hf
    have q := h i hi
    have e : cN (fnL L) i = cV L[i] := by funext j; show fnL L i j = _; rw [fnL_get hi]
    rw [e] at q
    exact q
  · intro h i hi
    have e : cN (fnL L) i = cV L[i] := by funext j; show fnL L i j = _; rw [fnL_get hi]
    rw [e]
    exact h _ (List.getElem_mem hi)
theorem ker_rg {n m : Nat} {A : Int → Int → Int} {y : Nat → Int} : KerL n ((rgL 0 (m : Int)).map A) y ↔ KN.Ker m n (cN A) y := by
  constructor
  · intro h i hi
    exact h (A i) (List.mem_map.mpr ⟨i, mem_rgL (by omega) (by omega), rfl⟩)
  · intro h f hf
    obtain ⟨i, hi, rfl⟩ := List.mem_map.mp hf
    obtain ⟨i0, i1⟩ := rgL_mem hi
    obtain ⟨i, rfl⟩ := Int.eq_ofNat_of_zero_le i0
    exact h i (by omega)
theorem small_fnL {n E : Nat} {L : List (Int → Int)} (h : pd (wL n L) ≤ 2 ^ E) : (∀ i j : Nat, i < L.length → j < n → (fnL L i j).natAbs ≤ 2 ^ E) ∧ KN.pr L.length (fun c => 1 + 2 * KN.suA n fun j => cN (fnL L) c j) ≤ 2 ^ E := by
  have el : ∀ {i : Nat} (hi : i < L.length), cN (fnL L) i = cV L[i] := fun {i} hi => by funext j; show fnL L i j = _; rw [fnL_get hi]
  have one : ∀ x ∈ wL n L, 1 ≤ x := fun x hx => by
    obtain ⟨f, _, rfl⟩ := List.mem_map.mp hx
    omega
  refine ⟨fun i j hi hj => ?_, ?_⟩
  · have h1 : (fnL L i j).natAbs ≤ su n (L[i]) := by
      rw [fnL_get hi]
      exact KN.suA_at (f := cV L[i]) hj
    have h2 := pd_mem one (1 + 2 * su n L[i]) (List.mem_map.mpr ⟨_, List.getElem_mem hi, rfl⟩)
    omega
  · refine Nat.le_trans ?_ h
    rw [← pr_pd]
    have e : (wL n L).length = L.length := List.length_map ..
    rw [e]
    refine KN.pr_mono fun c hc => ?_
    rw [List.getD_eq_getElem?_getD]
    unfold wL
    rw [List.getElem?_map, List.getElem?_eq_getElem hc]
    show 1 + 2 * KN.suA n (fun j => cN (fnL L) c j) ≤ 1 + 2 * su n L[c]
    rw [show (fun j => cN (fnL L) c j) = cV L[c] from el hc]
    exact Nat.le_refl _
theorem suA_spike {n a : Nat} {v : Int} : KN.suA n (fun k => if k = a then v else 0) ≤ v.natAbs := by
  have key : ∀ n, (n ≤ a → KN.suA n (fun k => if k = a then v else 0) = 0) ∧ KN.suA n (fun k => if k = a then v else 0) ≤ v.natAbs := by
    intro n
    induction n with
    | zero => exact ⟨fun _ => rfl, Nat.zero_le _⟩
    | succ n ih =>
      have e : KN.suA (n + 1) (fun k => if k = a then v else 0) = KN.suA n (fun k => if k = a then v else 0) + (if n = a then v else 0).natAbs := rfl
      rw [e]
      refine ⟨fun h => ?_, ?_⟩
      · rw [ih.1 (by omega), if_neg (by omega)]; rfl
      · by_cases c : n = a
        · rw [ih.1 (by omega), if_pos c]; omega
        · rw [if_neg c]; have := ih.2; show _ + 0 ≤ _; omega
  exact (key n).2
theorem sz_le {b : Nat} {x : Int} (h : Sz b x) : x.natAbs ≤ 2 ^ b := Nat.le_of_lt h
/-! ### what the planted rows tell -/
theorem pla_su {n p : Nat} {h : Int → Int} {A : Int → Int → Int} (H : PlA n p h A) (hn : n ≤ 60) (hp : p < n) (hz : ∀ j, 0 ≤ j → j ≤ (p : Int) → Sz 88 (h j)) : ∀ i : Nat, i < p → su n (A i) ≤ 2 ^ 90 := fun i hi => by
  have e : su n (A i) ≤ KN.suA n (fun k => (if k < p + 1 then 0 else A i k) + 1 * ((fun k => (fun k => if k = i then h p else 0) k + 1 * (fun k => if k = p then -h i else 0) k) k)) := KN.suA_mono fun k hk => by
    show (A i k).natAbs ≤ _
    dsimp only
    by_cases c : k < p + 1
    · rw [if_pos c]
      by_cases c1 : k = i
      · rw [if_pos c1, if_neg (by omega), c1, H.dia i hi]; simp
      · rw [if_neg c1]
        by_cases c2 : k = p
        · rw [if_pos c2, c2, H.las i hi]; simp
        · rw [if_neg c2, H.off i k hi (by omega) c1]; simp
    · rw [if_neg c, if_neg (by omega), if_neg (by omega)]; simp
  refine Nat.le_trans e (Nat.le_trans (suA_lin2 (C := 1) (by decide)) ?_)
  have h1 : KN.suA n (fun k => if k < p + 1 then 0 else A i k) ≤ n * 3 := suA_le fun k hk => by
    by_cases c : k < p + 1
    · rw [if_pos c]; decide
    · rw [if_neg c]; exact H.tai i k hi (by omega) hk
  have h2 := suA_lin2 (c := 1) (C := 1) (by decide) (n := n) (f := fun k => if k = i then h p else 0) (g := fun k => if k = p then -h i else 0)
  have h3 := suA_spike (n := n) (a := i) (v := h p)
  have h4 := suA_spike (n := n) (a := p) (v := -h i)
  have z1 := sz_le (hz p (by omega) (by omega))
  have z2 := sz_le (hz i (by omega) (by omega))
  rw [Int.natAbs_neg] at h4
  refine Nat.le_trans (Nat.add_le_add h1 (Nat.mul_le_mul_left 1 (Nat.le_trans h2 (Nat.add_le_add h3 (Nat.mul_le_mul_left 1 h4))))) ?_
  have e2 : (2 : Nat) ^ 90 = 4 * 2 ^ 88 := by decide
  have e3 : 1000 ≤ 2 ^ 88 := by decide
  omega
def dueF (p : Int) (h : Int → Int) : Int → Int := fun j => if j < p + 1 then h j else 0
theorem pla_due {n p : Nat} {h : Int → Int} {A : Int → Int → Int} (H : PlA n p h A) (hp : p < n) : KN.Ker p n (cN A) (cV (dueF p h)) := fun i hi => by
  unfold KN.dot
  rw [LP.sumN_two (i := i) (k := p) (by omega) hp (by omega) fun l hl h1 h2 => ?_]
  · show A i i * dueF p h i + A i p * dueF p h p = 0
    unfold dueF
    rw [if_pos (by omega), if_pos (by omega), H.dia i hi, H.las i hi, Int.neg_mul, Int.mul_comm]
    omega
  · show A i l * dueF p h l = 0
    by_cases c : l < p
    · rw [H.off i l hi c h1, Int.zero_mul]
    · unfold dueF
      rw [if_neg (by omega), Int.mul_zero]
theorem pla_ind {n p : Nat} {h : Int → Int} {A : Int → Int → Int} (H : PlA n p h A) (hp : p < n) (h0 : 0 < h p) : KN.Indep p n p (cN A) := fun y hy q j hj => by
  have e := q j hj
  unfold KN.dot at e
  rw [LP.sumN_one (i := j) (by omega) fun l hl ne => ?_] at e
  · have e : A j j * y j = 0 := e
    rw [H.dia j hj] at e
    rcases Int.mul_eq_zero.mp e with z | z
    · omega
    · exact z
  · show A j l * y l = 0
    by_cases c : l < p
    · rw [H.off j l hj c ne, Int.zero_mul]
    · rw [hy l (by omega) hl, Int.mul_zero]
end K08

namespace K08
open PySem PySem.Spec PyProof.Rows L2 PT
local macro_rules | `(tactic| walk_at "wp") => `(tactic| simp only [↓PT.q_callK, PT.q_pk1, PT.q_pk10, PT.q_pk01, PT.wpE, PT.wpEs, PT.wpO, PT.wpB, PT.wpC, PT.wpI, PT.wpIS, PT.q_var, PT.q_vsh, PT.q_vow, PT.q_vbr, PT.q_val, PT.Env.get, PT.takes, PT.taksO, PT.taksF, PT.takF, PT.entO, PT.keeps, PT.bltT, PT.flatIf, PT.bwT, PT.wpFrz, PT.wpRetV, PT.wpL, PT.lvT, PT.nxtP, PT.wpMv, PT.Env.store, PT.Env.put, PT.Env.puts, PT.Env.wipe, PT.Env.mut, PT.Sl.unroot, PT.Sl.muted, PT.q_og0, PT.q_ogS, q_seq, q_idx, q_len, q_lst, q_tup, q_isin, q_add, q_sub, q_mul, q_fdiv, q_fdivN, q_fdivW, q_mod, q_pow, q_addL, q_mulL, q_addT, q_lt, q_le, q_gt, q_ge, q_eq, q_ne, q_eqLL, q_neLL, q_eqTT, q_neTT, q_eqLT, q_neLT, q_eqTL, q_neTL, q_eqB, q_neB, q_isN, q_notN, q_in_L, q_in_T, q_notInL, q_notInT, q_idxL, q_idxT, q_idxS, q_slc, q_slcT, q_fst, q_end, q_neg, q_tru, q_asI, q_asIs0, q_asIs1, q_lenL, q_lenT, q_lenS, q_abs, q_maxI, q_minI, q_maxL, q_maxT, q_minL, q_minT, q_sumL, q_sumT, q_all, q_any, q_intI, q_intB, q_tupL, q_tupT, q_lstL, q_lstT, q_lstS, q_rng1, q_rng2, q_seqL, q_seqT, q_seqS, q_gcd, q_isiI, q_isiB, q_isiL, q_isiT, q_isiN, q_isiS, q_unp, q_take0, q_takeF, q_takeI, q_keep0, q_keepF, q_sl0, q_slF, q_slB, q_it0, q_itF, q_itB, q_sh0, q_sh1, q_sh2, q_shF, q_frz0, q_frzF, q_asgN, q_asgF, q_rd0, q_rdF, PT.q_put0, PT.It.slots, List.map_cons, List.map_nil, List.append_nil, List.nil_append, List.cons_append, List.length_cons, List.length_nil, List.length_map, List.zip_cons_cons, List.zip_nil_left, PT.rgL_len, PT.fL_len, Int.sub_zero, List.any_cons, List.any_nil, PT.kdIs, Bool.or_false, Bool.false_or, Bool.or_true, Bool.and_true, Bool.true_and, Bool.not_true, Bool.not_false, Bool.not_eq_true', decide_eq_true_eq, decide_eq_false_iff_not, Bool.false_eq_true, Bool.true_eq_false, reduceCtorEq, if_true, if_false, ite_not, true_and, and_true, eq_self, len_iL, decide_true, decide_false, Nat.reduceAdd, Nat.reduceSub, reduceIte, Nat.reduceLT, Nat.reduceEqDiff, ne_eq, not_false_eq_true, not_true_eq_false, PT.T.isNon, true_or, false_or, Nat.le_refl, Nat.lt_irrefl, Nat.zero_lt_succ, Nat.not_lt_zero, PT.T.flat, List.all_cons, List.all_nil, List.replicate, PT.q_at0, Option.some.injEq, T.lst.injEq, exists_and_left, exists_eq_left, exists_eq_left', rd0, rd1, rd2, rd3, rd4, rd5, rd6, rd7, rd8, rd9, rd10, rd11, rd12, rd13, rd14, rd15, rd16, rd17, rd18, rd19, rd20, rd21, rd22, rd23])
local macro_rules | `(tactic| walk_at "st") => `(tactic| with_reducible first | refine st_asg ?_ | refine st_own ?_ | refine st_frz ?_ | refine st_fgt ?_ | refine st_fst ?_ | refine st_ret ?_ | refine st_retV ?_ | refine st_app ?_ | refine st_sto ?_ | refine st_appMv ?_ | refine st_ali ?_ | refine st_unp ?_ | refine st_forD ?_ | refine st_retN ?_ | refine st_brk ?_ | refine st_cnt ?_ | refine st_pas ?_ | refine st_ex ?_ | refine st_ite ?_ | refine st_for ?_ | refine st_nil ?_)
local macro_rules | `(tactic| walk_at "ob") => `(tactic| first | exact trivial | assumption | (with_reducible rfl) | omega | decide | exact mul_okL (by omega) (by omega) | exact mul_okR (by omega) (by omega) | exact mul_ok (by assumption) (by assumption) (by decide) | (unfold sizeLine; omega))
local macro_rules | `(tactic| walk_at "cj") => `(tactic| with_reducible first | refine And.intro (by walk_at "ob") ?_ | refine x_l0 ?_ | refine x_l1 ?_ | refine x_l2 ?_ | refine x_l3 ?_ | refine x_fL (by omega) (by omega) ?_ | refine x_rg (by omega) (by omega) ?_ | refine x_lastI (by omega) ?_ | refine x_last (by omega) ?_ | refine x_idx (by omega) (by omega) ?_ | refine x_ix (by omega) (by omega) ?_)
local macro_rules | `(tactic| walk_at "sn") => `(tactic| with_reducible first | refine st_asg ?_ | refine st_own ?_ | refine st_frz ?_ | refine st_fgt ?_ | refine st_fst ?_ | refine st_ret ?_ | refine st_retV ?_ | refine st_app ?_ | refine st_sto ?_ | refine st_appMv ?_ | refine st_ali ?_ | refine st_unp ?_ | refine st_forD ?_ | refine st_retN ?_ | refine st_brk ?_ | refine st_cnt ?_ | refine st_pas ?_ | refine st_ex ?_ | refine st_for ?_ | refine st_nil ?_)
local macro_rules | `(tactic| walk_at "gn") => `(tactic| (repeat (first | walk_at "cj" | walk_at "sn" | walk_at "wp")))
local macro_rules | `(tactic| walk_at "go") => `(tactic| (repeat (first | walk_at "cj" | walk_at "st" | walk_at "wp")))

theorem kc_fnL {t n : Nat} {a b : Bool} {L : List (Int → Int)} {Q : T → Prop} (hl : L.length ≤ 63) (hn : n ≤ 60) (hw : pd (wL n L) ≤ 2 ^ 6241)
    (hq : ∀ (k : Nat) (x : Int → Int), Found L.length n (fnL L) k x → ∀ j : Nat, j < n → Sz 4000 (x j))
    (h1 : KN.Indep L.length n n (cN (fnL L)) → Q .non) (h2 : ∀ (k : Nat) (x : Int → Int), Found L.length n (fnL L) k x → Q (.tup (iL (fL n x)))) :
    Cl (gam tbl (t + 4) 6 [sq a (L.map fun f => sq b (iL (fL n f))), .int n] Q) := by
  rw [map_fnL (fun f => sq b (iL (fL n f)))]
  obtain ⟨s1, s2⟩ := small_fnL hw
  refine c_ker (t := t) (E := 6241) (by omega) (by omega) (by decide) s1 s2 (fun W k bb hk S h0 hz hb j j0 j1 => ?_) h1 h2
  have F := found_of S hk (by decide) (by omega) hz h0 hb
  have s := hq k _ F
  obtain ⟨j, rfl⟩ := Int.eq_ofNat_of_zero_le j0
  have sj := s j (by omega)
  have gp : 0 < gcdL (fL n (depI W k bb)) := by
    have g0 := gcdL_nonneg (fL n (depI W k bb))
    refine Classical.byContradiction fun z => ?_
    have := gcdL_dvd (fL n (depI W k bb)) (depI W k bb k) (by unfold fL; exact List.mem_map.mpr ⟨k, mem_rgL (by omega) (by omega), rfl⟩)
    rw [show gcdL (fL n (depI W k bb)) = 0 by omega] at this
    have := Int.zero_dvd.mp this
    have e : depI W k bb k = bb := by unfold depI; rw [if_pos rfl]
    rw [e] at this
    have := hb.pos
    omega
  have e : depI W k bb j = gcdL (fL n (depI W k bb)) * lowI n (depI W k bb) j := by
    unfold lowI
    by_cases c : gcdL (fL n (depI W k bb)) < 2
    · rw [if_pos c, show gcdL (fL n (depI W k bb)) = 1 by omega, Int.one_mul]
    · rw [if_neg c]
      exact (Int.mul_ediv_cancel' (gcdL_dvd _ _ (by unfold fL; exact List.mem_map.mpr ⟨j, mem_rgL (by omega) (by omega), rfl⟩))).symm
  have := div_mul (y := gcdL (fL n (depI W k bb))) sj
  rw [← e] at this
  exact this
theorem given_back {n : Int} {b : Bool} {L : List (Int → Int)} {F : LcF} {g : T → List (Nat × Sl)} {Q : List T → Prop} (hl : L.length ≤ 1000) (hs : ∀ f ∈ L, ∀ acc K, acc.length < sizeLine → K (acc ++ [rowF n f]) → F (g (sq b (iL (fL n f)))) acc K) (hq : Q (rowsF n L)) : lcL F ((L.map fun f => sq b (iL (fL n f))).map g) [] Q := by
  refine lc_of (h := fun f => sq b (iL (fL n f))) (rowF n) L (by unfold sizeLine; omega) hs hq
theorem rowsF_dep (n : Int) (L : List (Int → Int)) : (T.lst (rowsF n L)).dep 60 := by
  unfold T.dep
  exact deps_map (fun i => dep_L1 _ _) _
theorem rowsF_beq (n : Int) (L : List (Int → Int)) : T.beq (.lst (rowsF n L)) (.lst (rowsF n L)) = true := by
  unfold T.beq
  exact beqs_map (fun i => beq_L1 _) _
theorem c_flr {t : Nat} {ns : List Int} {Q : T → Prop} (h : Q (.bl true)) : Cl (gam tbl (t + 5) 22 [.scr ns] Q) := by
  refine enter rfl rfl rfl ?_
  simp only [d22, entry]
  walk_at "gn"
  refine c_cell (n := t + 3) (by decide) (by decide) ?_
  walk_at "gn"
  refine c_digE (n := t + 3) (sizes := [10, 2]) rfl (by decide) (by decide) fun ds hd => ?_
  have hlen : ds.length = 2 := hd.len
  have hb : ∀ k : Int, 0 ≤ k → k < 2 → 0 ≤ gi ds k ∧ gi ds k < gi [10, 2] k := fun k a b => hd.gi k a (by show k < (2 : Int); omega)
  have b0 : 0 ≤ gi ds 0 ∧ gi ds 0 < 10 := hb 0 (by decide) (by decide)
  have b1 : 0 ≤ gi ds 1 ∧ gi ds 1 < 2 := hb 1 (by decide) (by decide)
  walk_at "gn"
  refine pick_of [1, 2, 3, 4, 5, 7, 9, 14, 22, 60] _ _ b0.1 b0.2 fun n0 hn0 => ?_
  have hn0 : 1 ≤ n0 ∧ n0 ≤ 60 := by
    have : ∀ x ∈ ([1, 2, 3, 4, 5, 7, 9, 14, 22, 60] : List Int), 1 ≤ x ∧ x ≤ 60 := by decide
    exact this n0 hn0
  obtain ⟨n, rfl⟩ := Int.eq_ofNat_of_zero_le (show 0 ≤ n0 by omega)
  walk_at "gn"
  refine c_ful (t := t + 2) (by omega) fun A hA => ?_
  walk_at "gn"
  have suA : ∀ i : Nat, i < n → su n (A i) ≤ 2 ^ 40 := fun i hi => by
    have e : su n (A i) ≤ KN.suA n (fun k => if k = i then A i i else 0) := KN.suA_mono fun k hk => by
      show (A i k).natAbs ≤ _
      by_cases c : k = i
      · rw [if_pos c, c]; exact Nat.le_refl _
      · rw [if_neg c, hA.off i k hi hk c]; exact Nat.le_refl _
    exact Nat.le_trans e (Nat.le_trans suA_spike (sz_le (hA.dia i hi).2))
  have ind : KN.Indep n n n (cN A) := fun y _ q j hj => by
    have e := q j hj
    unfold KN.dot at e
    rw [LP.sumN_one (i := j) hj fun l hl ne => by show A j l * y l = 0; rw [hA.off j l hj hl ne, Int.zero_mul]] at e
    rcases Int.mul_eq_zero.mp (show A j j * y j = 0 from e) with z | z
    · exact absurd z (hA.dia j hj).1
    · exact z
  refine c_mix (t := t + 2) (B := 2 ^ 40) (by omega) (by omega) suA fun A1 k1 s1 => ?_
  rw [show (.lst (rowsL n n A1) : T) = .lst (rowsF n ((rgL 0 (n : Int)).map A1)) by unfold rowsF; rw [List.map_map]; rfl]
  have l0 : ((rgL 0 (n : Int)).map A1).length = n := by rw [len_rg]; omega
  refine c_mor (t := t + 2) (by omega) (by omega) (by omega) (fun f hf => ?_) fun L hM hl hw => ?_
  · obtain ⟨i, hi, rfl⟩ := List.mem_map.mp hf
    obtain ⟨i0, i1⟩ := rgL_mem hi
    obtain ⟨i, rfl⟩ := Int.eq_ofNat_of_zero_le i0
    refine Nat.le_trans (s1 i (by omega)) ?_
    decide
  rw [l0] at hl hw
  have indL : KN.Indep L.length n n (cN (fnL L)) := fun y hy q => ind y hy ((k1 y).mp (ker_rg.mp (hM.bk y (ker_fnL.mp q))))
  walk_at "gn"
  generalize hbb : decide (gi ds 1 = 0) = b
  refine lc_of (h := rowF n) (fun f => sq b (iL (fL n f))) L (by unfold sizeLine; omega) (fun f hf acc K ha hK => ?_) ?_
  · walk_at "gn"
    refine sel_tl b1 ?_
    rw [hbb]
    walk_at "gn"
    exact hK
  walk_at "gn"
  refine kc_fnL (t := t) (a := false) (by omega) (by omega) (Nat.le_trans hw (Nat.pow_le_pow_right (by decide) (by omega))) (fun k x hf => (KN.first_no hf.first indL).elim) (fun _ => ?_) (fun k x hf => (KN.first_no hf.first indL).elim)
  walk_at "gn"
  refine given_back (by omega) (fun f hf acc K ha hK => ?_) ?_
  · walk_at "gn"
    exact hK
  walk_at "gn"
  refine ⟨rowsF_dep _ _, rowsF_dep _ _, ?_⟩
  rw [rowsF_beq]
  exact h
/-! ### the planted row found again -/
theorem prim_due {n p : Nat} {h : Int → Int} (hp : p < n) (H : KN.Prim (p + 1) (cV h)) : KN.Prim n (cV (dueF p h)) := fun d hd => H d fun j hj => by
  have := hd j (by omega)
  show d ∣ h j
  have e : dueF p h j = h j := by unfold dueF; rw [if_pos (by omega)]
  rw [← e]; exact this
theorem due_at {n p : Nat} {h : Int → Int} {L : List (Int → Int)} {k : Nat} {x : Int → Int} (hp : p < n) (h0 : 0 < h p) (H : KN.Prim (p + 1) (cV h)) (ind : KN.Indep L.length n p (cN (fnL L))) (kd : KN.Ker L.length n (cN (fnL L)) (cV (dueF p h))) (F : Found L.length n (fnL L) k x) : ∀ j : Nat, j < n → x j = dueF p h j := by
  have dp : dueF p h p = h p := by unfold dueF; rw [if_pos (by omega)]
  have sup : ∀ j : Nat, p < j → j < n → cV (dueF p h) j = 0 := fun j j0 j1 => by show dueF p h j = 0; unfold dueF; rw [if_neg (by omega)]
  have F1 : KN.First L.length n p (cN (fnL L)) := ⟨hp, ind, cV (dueF p h), sup, by show dueF p h p ≠ 0; omega, kd⟩
  obtain rfl := KN.first_one F1 F.first
  have al := KN.ker_along F.ind F.sup sup F.ker kd hp
  exact KN.prim_same hp al F.prim (prim_due hp H) F.pos (by show 0 < dueF p h p; omega)
theorem rgL_app {a b : Int} (hab : a ≤ b) : ∀ d : Nat, rgL a b ++ rgL b (b + d) = rgL a (b + d)
  | 0 => by rw [show b + ((0 : Nat) : Int) = b by omega, rgL_nil (Int.le_refl b), List.append_nil]
  | d + 1 => by
    rw [show b + ((d + 1 : Nat) : Int) = b + (d : Int) + 1 by omega, rgL_snoc (by omega), rgL_snoc (by omega), ← List.append_assoc, rgL_app hab d]
theorem due_list {n p : Nat} {h : Int → Int} (hp : p < n) : iL (fL (p + 1) h) ++ (rgL ((p : Int) + 1) n).map (fun _ => T.int 0) = iL (fL n (dueF p h)) := by
  rw [iL_fL, iL_fL]
  have := rgL_app (a := 0) (b := (p : Int) + 1) (by omega) (n - (p + 1))
  rw [show (p : Int) + 1 + ((n - (p + 1) : Nat) : Int) = n by omega] at this
  rw [← this, List.map_append]
  congr 1
  · exact rg_congr fun j _ j1 => by unfold dueF; rw [if_pos j1]
  · refine List.map_congr_left fun j hj => ?_
    have := (rgL_mem hj).1
    unfold dueF
    rw [if_neg (by omega)]
theorem c_plr {t : Nat} {ns : List Int} {Q : T → Prop} (h : Q (.bl true)) : Cl (gam tbl (t + 5) 21 [.scr ns] Q) := by
  refine enter rfl rfl rfl ?_
  simp only [d21, entry]
  walk_at "gn"
  refine c_cell (n := t + 3) (by decide) (by decide) ?_
  walk_at "gn"
  refine c_digE (n := t + 3) (sizes := [10, 6, 60, 2, 2, 7]) rfl (by decide) (by decide) fun ds hd => ?_
  have hlen : ds.length = 6 := hd.len
  have hb : ∀ k : Int, 0 ≤ k → k < 6 → 0 ≤ gi ds k ∧ gi ds k < gi [10, 6, 60, 2, 2, 7] k := fun k a b => hd.gi k a (by show k < (6 : Int); omega)
  have b0 : 0 ≤ gi ds 0 ∧ gi ds 0 < 10 := hb 0 (by decide) (by decide)
  have b1 : 0 ≤ gi ds 1 ∧ gi ds 1 < 6 := hb 1 (by decide) (by decide)
  have b2 : 0 ≤ gi ds 2 ∧ gi ds 2 < 60 := hb 2 (by decide) (by decide)
  have b4 : 0 ≤ gi ds 4 ∧ gi ds 4 < 2 := hb 4 (by decide) (by decide)
  have b5 : 0 ≤ gi ds 5 ∧ gi ds 5 < 7 := hb 5 (by decide) (by decide)
  walk_at "gn"
  refine pick_of [1 + gi ds 5, 2, 3, 4, 5, 7, 9, 16, 30, 60] _ _ b0.1 b0.2 fun n0 hn0 => ?_
  have hn0 : 1 ≤ n0 ∧ n0 ≤ 60 := by
    rcases List.mem_cons.mp hn0 with e | e
    · omega
    · have : ∀ x ∈ ([2, 3, 4, 5, 7, 9, 16, 30, 60] : List Int), 1 ≤ x ∧ x ≤ 60 := by decide
      exact this n0 e
  obtain ⟨n, rfl⟩ := Int.eq_ofNat_of_zero_le (show 0 ≤ n0 by omega)
  have hm := mod_ok (i := gi ds 2) (j := (n : Int)) (by omega)
  walk_at "gn"
  refine pick_of [gi ds 2 % n, (n : Int) - 1, 0] _ _ (by omega) (by show _ < (3 : Int); omega) fun p0 hp0 => ?_
  have hp0 : 0 ≤ p0 ∧ p0 < n := by
    have : p0 = gi ds 2 % n ∨ p0 = (n : Int) - 1 ∨ p0 = 0 := by simpa using hp0
    omega
  obtain ⟨p, rfl⟩ := Int.eq_ofNat_of_zero_le hp0.1
  have pn : p < n := by omega
  walk_at "gn"
  refine c_hid (t := t + 2) (by omega) fun hh hz hpos hprim => ?_
  walk_at "gn"
  refine c_pla (t := t + 2) (by omega) pn fun A hA => ?_
  walk_at "gn"
  refine c_mix (t := t + 2) (B := 2 ^ 90) (by omega) (by omega) (pla_su hA (by omega) pn hz) fun A1 k1 s1 => ?_
  rw [show (.lst (rowsL p n A1) : T) = .lst (rowsF n ((rgL 0 (p : Int)).map A1)) by unfold rowsF; rw [List.map_map]; rfl]
  have l0 : ((rgL 0 (p : Int)).map A1).length = p := by rw [len_rg]; omega
  refine c_mor (t := t + 2) (by omega) (by omega) (by omega) (fun f hf => ?_) fun L hM hl hw => ?_
  · obtain ⟨i, hi, rfl⟩ := List.mem_map.mp hf
    obtain ⟨i0, i1⟩ := rgL_mem hi
    obtain ⟨i, rfl⟩ := Int.eq_ofNat_of_zero_le i0
    refine Nat.le_trans (s1 i (by omega)) ?_
    decide
  rw [l0] at hl hw
  have indL : KN.Indep L.length n p (cN (fnL L)) := fun y hy q => pla_ind hA pn hpos y hy ((k1 y).mp (ker_rg.mp (hM.bk y (ker_fnL.mp q))))
  have kd : KN.Ker L.length n (cN (fnL L)) (cV (dueF p hh)) := ker_fnL.mpr (hM.fw _ (fun k k0 k1 => by show dueF p hh k = 0; unfold dueF; rw [if_neg (by omega)]) (ker_rg.mpr ((k1 _).mpr (pla_due hA pn))))
  have at_ : ∀ (k : Nat) (x : Int → Int), Found L.length n (fnL L) k x → ∀ j : Nat, j < n → x j = dueF p hh j := fun k x F => due_at pn hpos hprim indL kd F
  have dsz : ∀ j : Nat, Sz 88 (dueF p hh j) := fun j => by
    unfold dueF
    split
    · exact hz j (by omega) (by omega)
    · show (0 : Int).natAbs < _
      exact Nat.pow_pos (by decide)
  walk_at "gn"
  refine lc_all (fun _ => .int 0) _ (by rw [rgL_len]; unfold sizeLine; omega) (fun j hj acc K ha hK => ?_) ?_
  · walk_at "gn"
    exact hK
  walk_at "gn"
  rw [due_list pn]
  generalize hbb : decide (gi ds 4 = 1) = b
  refine lc_of (h := rowF n) (fun f => sq b (iL (fL n f))) L (by unfold sizeLine; omega) (fun f hf acc K ha hK => ?_) ?_
  · walk_at "gn"
    refine sel_lt b4 ?_
    rw [hbb]
    walk_at "gn"
    exact hK
  walk_at "gn"
  refine kc_fnL (t := t) (a := true) (by omega) (by omega) (Nat.le_trans hw (Nat.pow_le_pow_right (by decide) (by omega))) (fun k x hf j hj => by rw [at_ k x hf j hj]; exact (dsz j).mono (by decide)) (fun hi => ?_) (fun k x hf => ?_)
  · exact (KN.first_no ⟨pn, indL, cV (dueF p hh), fun j j0 j1 => by show dueF p hh j = 0; unfold dueF; rw [if_neg (by omega)], by show dueF p hh p ≠ 0; unfold dueF; rw [if_pos (by omega)]; omega, kd⟩ hi).elim
  have ex : fL n x = fL n (dueF p hh) := fL_congr fun j j0 j1 => by
    obtain ⟨j, rfl⟩ := Int.eq_ofNat_of_zero_le j0
    exact at_ k x hf j (by omega)
  rw [ex]
  walk_at "gn"
  refine st_ite ?_
  walk_at "gn"
  refine given_back (by omega) (fun f hf acc K ha hK => ?_) ?_
  · walk_at "gn"
    exact hK
  walk_at "gn"
  refine ⟨rowsF_dep _ _, rowsF_dep _ _, ?_⟩
  simp only [rowsF_beq]
  walk_at "gn"
  simp only [Int.toNat_natCast]
  walk_at "gn"
  refine forL_range (fun j env => env = [.sh (.scr ns), .sh (.lst (iL ds)), .sh (.int n), .sh (.int p), .sh (.lst (iL (fL (p + 1) hh))), .sh (.lst (rowsF n L)), .sh (.lst (iL (fL n (dueF p hh)))), .sh (.lst (L.map fun f => sq b (iL (fL n f)))), .sh (.tup (iL (fL n (dueF p hh)))), .em, .em]) (by omega) _ rfl ?_ ?_
  · rintro j env K j0 j1 rfl hK
    walk_at "gn"
    refine st_ite ?_
    walk_at "gn"
    refine c_whole (t := t + 3) ?_
    walk_at "gn"
    exact hK _ rfl
  · rintro env rfl
    walk_at "gn"
    exact h
theorem law_spec : ∀ ns : List Int, ns.length ≤ 63 → gam cfg.tbl 6 23 [.scr ns] fun t => t = .bl true := by
  intro ns hns
  suffices h : Cl (gam tbl 6 23 [.scr ns] fun t => t = .bl true) from h.go
  refine enter rfl rfl rfl ?_
  simp only [d23, entry]
  walk_at "gn"
  refine c_smr (t := 0) ?_
  walk_at "gn"
  refine c_plr (t := 0) ?_
  walk_at "gn"
  refine c_flr (t := 0) ?_
  rfl
end K08

namespace K08
open PySem PySem.Spec PyProof.Rows L2 PT
def top (i : Nat) : Stmt := PySem.Challenge.pw_onlyprices_k08_kernel_row_whole.main.body.getD i (.Pass ⟨0, 0, 0, 0⟩)
def mth (s : Stmt) (m : Nat) : Stmt := match s with
  | .ClassDef _ _ _ body .. => body.getD m (.Pass ⟨0, 0, 0, 0⟩)
  | _ => .Pass ⟨0, 0, 0, 0⟩
def f0 : He.DefD := ⟨("common_divisor", none), "common_divisor", "common_divisor", defArgs (top 2), defBody (top 2), defScope (top 2), [], []⟩
def f1 : He.DefD := ⟨("lowered_row", none), "lowered_row", "lowered_row", defArgs (top 3), defBody (top 3), defScope (top 3), [], []⟩
def f2 : He.DefD := ⟨("common_multiple", none), "common_multiple", "common_multiple", defArgs (top 4), defBody (top 4), defScope (top 4), [], []⟩
def f3 : He.DefD := ⟨("pivot_index", none), "pivot_index", "pivot_index", defArgs (top 6), defBody (top 6), defScope (top 6), [], []⟩
def f4 : He.DefD := ⟨("cleared_rows", none), "cleared_rows", "cleared_rows", defArgs (top 7), defBody (top 7), defScope (top 7), [], []⟩
def f5 : He.DefD := ⟨("dependent_row", none), "dependent_row", "dependent_row", defArgs (top 8), defBody (top 8), defScope (top 8), [], []⟩
def f6 : He.DefD := ⟨("kernel_row", none), "kernel_row", "kernel_row", defArgs (top 9), defBody (top 9), defScope (top 9), [], []⟩
def f7 : He.DefD := ⟨("_law_whole", none), "_law_whole", "_law_whole", defArgs (top 11), defBody (top 11), defScope (top 11), [], []⟩
def f8 : He.DefD := ⟨("_law_cell", none), "_law_cell", "_law_cell", defArgs (top 12), defBody (top 12), defScope (top 12), [], []⟩
def f9 : He.DefD := ⟨("_law_digits", none), "_law_digits", "_law_digits", defArgs (top 13), defBody (top 13), defScope (top 13), [], []⟩
def f10 : He.DefD := ⟨("_law_dot", none), "_law_dot", "_law_dot", defArgs (top 14), defBody (top 14), defScope (top 14), [], []⟩
def f11 : He.DefD := ⟨("_law_gcd", none), "_law_gcd", "_law_gcd", defArgs (top 15), defBody (top 15), defScope (top 15), [], []⟩
def f12 : He.DefD := ⟨("_law_dependent", none), "_law_dependent", "_law_dependent", defArgs (top 16), defBody (top 16), defScope (top 16), [], []⟩
def f13 : He.DefD := ⟨("_law_added", none), "_law_added", "_law_added", defArgs (top 17), defBody (top 17), defScope (top 17), [], []⟩
def f14 : He.DefD := ⟨("_law_small_lines", none), "_law_small_lines", "_law_small_lines", defArgs (top 18), defBody (top 18), defScope (top 18), [], []⟩
def f15 : He.DefD := ⟨("_law_small_right", none), "_law_small_right", "_law_small_right", defArgs (top 19), defBody (top 19), defScope (top 19), [], []⟩
def f16 : He.DefD := ⟨("_law_hidden", none), "_law_hidden", "_law_hidden", defArgs (top 20), defBody (top 20), defScope (top 20), [], []⟩
def f17 : He.DefD := ⟨("_law_planted", none), "_law_planted", "_law_planted", defArgs (top 21), defBody (top 21), defScope (top 21), [], []⟩
def f18 : He.DefD := ⟨("_law_full", none), "_law_full", "_law_full", defArgs (top 22), defBody (top 22), defScope (top 22), [], []⟩
def f19 : He.DefD := ⟨("_law_mixed", none), "_law_mixed", "_law_mixed", defArgs (top 23), defBody (top 23), defScope (top 23), [], []⟩
def f20 : He.DefD := ⟨("_law_more", none), "_law_more", "_law_more", defArgs (top 24), defBody (top 24), defScope (top 24), [], []⟩
def f21 : He.DefD := ⟨("_law_planted_right", none), "_law_planted_right", "_law_planted_right", defArgs (top 25), defBody (top 25), defScope (top 25), [], []⟩
def f22 : He.DefD := ⟨("_law_full_right", none), "_law_full_right", "_law_full_right", defArgs (top 26), defBody (top 26), defScope (top 26), [], []⟩
def f23 : He.DefD := ⟨("law", none), "law", "law", defArgs (top 27), defBody (top 27), defScope (top 27), [], []⟩
def fn : List He.DefD := [f0, f1, f2, f3, f4, f5, f6, f7, f8, f9, f10, f11, f12, f13, f14, f15, f16, f17, f18, f19, f20, f21, f22, f23]
theorem ok0 : DOk cfg d0 f0 0 := by
  refine ⟨by decide +kernel, fun _ _ _ _ _ _ us hl => match us, hl with | [_], _ => rfl, fun q hq hf kV doc pm an cdv ct us ws h1 h2 => ?_⟩
  have hq : q ∈ [(⟨6, 0, ["width", "rows"], [1, 0]⟩ : Kws)] := hq
  simp only [List.mem_cons, List.not_mem_nil, or_false] at hq
  rcases hq with rfl
  · exact absurd hf (by decide)
theorem ok1 : DOk cfg d1 f1 1 := by
  refine ⟨by decide +kernel, fun _ _ _ _ _ _ us hl => match us, hl with | [_], _ => rfl, fun q hq hf kV doc pm an cdv ct us ws h1 h2 => ?_⟩
  have hq : q ∈ [(⟨6, 0, ["width", "rows"], [1, 0]⟩ : Kws)] := hq
  simp only [List.mem_cons, List.not_mem_nil, or_false] at hq
  rcases hq with rfl
  · exact absurd hf (by decide)
theorem ok2 : DOk cfg d2 f2 2 := by
  refine ⟨by decide +kernel, fun _ _ _ _ _ _ us hl => match us, hl with | [_], _ => rfl, fun q hq hf kV doc pm an cdv ct us ws h1 h2 => ?_⟩
  have hq : q ∈ [(⟨6, 0, ["width", "rows"], [1, 0]⟩ : Kws)] := hq
  simp only [List.mem_cons, List.not_mem_nil, or_false] at hq
  rcases hq with rfl
  · exact absurd hf (by decide)
theorem ok3 : DOk cfg d3 f3 3 := by
  refine ⟨by decide +kernel, fun _ _ _ _ _ _ us hl => match us, hl with | [_, _, _], _ => rfl, fun q hq hf kV doc pm an cdv ct us ws h1 h2 => ?_⟩
  have hq : q ∈ [(⟨6, 0, ["width", "rows"], [1, 0]⟩ : Kws)] := hq
  simp only [List.mem_cons, List.not_mem_nil, or_false] at hq
  rcases hq with rfl
  · exact absurd hf (by decide)
theorem ok4 : DOk cfg d4 f4 4 := by
  refine ⟨by decide +kernel, fun _ _ _ _ _ _ us hl => match us, hl with | [_, _, _], _ => rfl, fun q hq hf kV doc pm an cdv ct us ws h1 h2 => ?_⟩
  have hq : q ∈ [(⟨6, 0, ["width", "rows"], [1, 0]⟩ : Kws)] := hq
  simp only [List.mem_cons, List.not_mem_nil, or_false] at hq
  rcases hq with rfl
  · exact absurd hf (by decide)
theorem ok5 : DOk cfg d5 f5 5 := by
  refine ⟨by decide +kernel, fun _ _ _ _ _ _ us hl => match us, hl with | [_, _, _, _], _ => rfl, fun q hq hf kV doc pm an cdv ct us ws h1 h2 => ?_⟩
  have hq : q ∈ [(⟨6, 0, ["width", "rows"], [1, 0]⟩ : Kws)] := hq
  simp only [List.mem_cons, List.not_mem_nil, or_false] at hq
  rcases hq with rfl
  · exact absurd hf (by decide)
theorem ok6 : DOk cfg d6 f6 6 := by
  refine ⟨by decide +kernel, fun _ _ _ _ _ _ us hl => match us, hl with | [_, _], _ => rfl, fun q hq hf kV doc pm an cdv ct us ws h1 h2 => ?_⟩
  have hq : q ∈ [(⟨6, 0, ["width", "rows"], [1, 0]⟩ : Kws)] := hq
  simp only [List.mem_cons, List.not_mem_nil, or_false] at hq
  rcases hq with rfl
  · exact match us, ws, h1, h2 with | [], [_, _], _, _ => rfl
theorem ok7 : DOk cfg d7 f7 7 := by
  refine ⟨by decide +kernel, fun _ _ _ _ _ _ us hl => match us, hl with | [_], _ => rfl, fun q hq hf kV doc pm an cdv ct us ws h1 h2 => ?_⟩
  have hq : q ∈ [(⟨6, 0, ["width", "rows"], [1, 0]⟩ : Kws)] := hq
  simp only [List.mem_cons, List.not_mem_nil, or_false] at hq
  rcases hq with rfl
  · exact absurd hf (by decide)
theorem ok8 : DOk cfg d8 f8 8 := by
  refine ⟨by decide +kernel, fun _ _ _ _ _ _ us hl => match us, hl with | [_, _], _ => rfl, fun q hq hf kV doc pm an cdv ct us ws h1 h2 => ?_⟩
  have hq : q ∈ [(⟨6, 0, ["width", "rows"], [1, 0]⟩ : Kws)] := hq
  simp only [List.mem_cons, List.not_mem_nil, or_false] at hq
  rcases hq with rfl
  · exact absurd hf (by decide)
theorem ok9 : DOk cfg d9 f9 9 := by
  refine ⟨by decide +kernel, fun _ _ _ _ _ _ us hl => match us, hl with | [_, _], _ => rfl, fun q hq hf kV doc pm an cdv ct us ws h1 h2 => ?_⟩
  have hq : q ∈ [(⟨6, 0, ["width", "rows"], [1, 0]⟩ : Kws)] := hq
  simp only [List.mem_cons, List.not_mem_nil, or_false] at hq
  rcases hq with rfl
  · exact absurd hf (by decide)
theorem ok10 : DOk cfg d10 f10 10 := by
  refine ⟨by decide +kernel, fun _ _ _ _ _ _ us hl => match us, hl with | [_, _], _ => rfl, fun q hq hf kV doc pm an cdv ct us ws h1 h2 => ?_⟩
  have hq : q ∈ [(⟨6, 0, ["width", "rows"], [1, 0]⟩ : Kws)] := hq
  simp only [List.mem_cons, List.not_mem_nil, or_false] at hq
  rcases hq with rfl
  · exact absurd hf (by decide)
theorem ok11 : DOk cfg d11 f11 11 := by
  refine ⟨by decide +kernel, fun _ _ _ _ _ _ us hl => match us, hl with | [_, _], _ => rfl, fun q hq hf kV doc pm an cdv ct us ws h1 h2 => ?_⟩
  have hq : q ∈ [(⟨6, 0, ["width", "rows"], [1, 0]⟩ : Kws)] := hq
  simp only [List.mem_cons, List.not_mem_nil, or_false] at hq
  rcases hq with rfl
  · exact absurd hf (by decide)
theorem ok12 : DOk cfg d12 f12 12 := by
  refine ⟨by decide +kernel, fun _ _ _ _ _ _ us hl => match us, hl with | [_, _], _ => rfl, fun q hq hf kV doc pm an cdv ct us ws h1 h2 => ?_⟩
  have hq : q ∈ [(⟨6, 0, ["width", "rows"], [1, 0]⟩ : Kws)] := hq
  simp only [List.mem_cons, List.not_mem_nil, or_false] at hq
  rcases hq with rfl
  · exact absurd hf (by decide)
theorem ok13 : DOk cfg d13 f13 13 := by
  refine ⟨by decide +kernel, fun _ _ _ _ _ _ us hl => match us, hl with | [_, _, _], _ => rfl, fun q hq hf kV doc pm an cdv ct us ws h1 h2 => ?_⟩
  have hq : q ∈ [(⟨6, 0, ["width", "rows"], [1, 0]⟩ : Kws)] := hq
  simp only [List.mem_cons, List.not_mem_nil, or_false] at hq
  rcases hq with rfl
  · exact absurd hf (by decide)
theorem ok14 : DOk cfg d14 f14 14 := by
  refine ⟨by decide +kernel, fun _ _ _ _ _ _ us hl => match us, hl with | [_, _, _, _, _], _ => rfl, fun q hq hf kV doc pm an cdv ct us ws h1 h2 => ?_⟩
  have hq : q ∈ [(⟨6, 0, ["width", "rows"], [1, 0]⟩ : Kws)] := hq
  simp only [List.mem_cons, List.not_mem_nil, or_false] at hq
  rcases hq with rfl
  · exact absurd hf (by decide)
theorem ok15 : DOk cfg d15 f15 15 := by
  refine ⟨by decide +kernel, fun _ _ _ _ _ _ us hl => match us, hl with | [_], _ => rfl, fun q hq hf kV doc pm an cdv ct us ws h1 h2 => ?_⟩
  have hq : q ∈ [(⟨6, 0, ["width", "rows"], [1, 0]⟩ : Kws)] := hq
  simp only [List.mem_cons, List.not_mem_nil, or_false] at hq
  rcases hq with rfl
  · exact absurd hf (by decide)
theorem ok16 : DOk cfg d16 f16 16 := by
  refine ⟨by decide +kernel, fun _ _ _ _ _ _ us hl => match us, hl with | [_, _, _], _ => rfl, fun q hq hf kV doc pm an cdv ct us ws h1 h2 => ?_⟩
  have hq : q ∈ [(⟨6, 0, ["width", "rows"], [1, 0]⟩ : Kws)] := hq
  simp only [List.mem_cons, List.not_mem_nil, or_false] at hq
  rcases hq with rfl
  · exact absurd hf (by decide)
theorem ok17 : DOk cfg d17 f17 17 := by
  refine ⟨by decide +kernel, fun _ _ _ _ _ _ us hl => match us, hl with | [_, _, _], _ => rfl, fun q hq hf kV doc pm an cdv ct us ws h1 h2 => ?_⟩
  have hq : q ∈ [(⟨6, 0, ["width", "rows"], [1, 0]⟩ : Kws)] := hq
  simp only [List.mem_cons, List.not_mem_nil, or_false] at hq
  rcases hq with rfl
  · exact absurd hf (by decide)
theorem ok18 : DOk cfg d18 f18 18 := by
  refine ⟨by decide +kernel, fun _ _ _ _ _ _ us hl => match us, hl with | [_, _], _ => rfl, fun q hq hf kV doc pm an cdv ct us ws h1 h2 => ?_⟩
  have hq : q ∈ [(⟨6, 0, ["width", "rows"], [1, 0]⟩ : Kws)] := hq
  simp only [List.mem_cons, List.not_mem_nil, or_false] at hq
  rcases hq with rfl
  · exact absurd hf (by decide)
theorem ok19 : DOk cfg d19 f19 19 := by
  refine ⟨by decide +kernel, fun _ _ _ _ _ _ us hl => match us, hl with | [_, _], _ => rfl, fun q hq hf kV doc pm an cdv ct us ws h1 h2 => ?_⟩
  have hq : q ∈ [(⟨6, 0, ["width", "rows"], [1, 0]⟩ : Kws)] := hq
  simp only [List.mem_cons, List.not_mem_nil, or_false] at hq
  rcases hq with rfl
  · exact absurd hf (by decide)
theorem ok20 : DOk cfg d20 f20 20 := by
  refine ⟨by decide +kernel, fun _ _ _ _ _ _ us hl => match us, hl with | [_, _, _, _], _ => rfl, fun q hq hf kV doc pm an cdv ct us ws h1 h2 => ?_⟩
  have hq : q ∈ [(⟨6, 0, ["width", "rows"], [1, 0]⟩ : Kws)] := hq
  simp only [List.mem_cons, List.not_mem_nil, or_false] at hq
  rcases hq with rfl
  · exact absurd hf (by decide)
theorem ok21 : DOk cfg d21 f21 21 := by
  refine ⟨by decide +kernel, fun _ _ _ _ _ _ us hl => match us, hl with | [_], _ => rfl, fun q hq hf kV doc pm an cdv ct us ws h1 h2 => ?_⟩
  have hq : q ∈ [(⟨6, 0, ["width", "rows"], [1, 0]⟩ : Kws)] := hq
  simp only [List.mem_cons, List.not_mem_nil, or_false] at hq
  rcases hq with rfl
  · exact absurd hf (by decide)
theorem ok22 : DOk cfg d22 f22 22 := by
  refine ⟨by decide +kernel, fun _ _ _ _ _ _ us hl => match us, hl with | [_], _ => rfl, fun q hq hf kV doc pm an cdv ct us ws h1 h2 => ?_⟩
  have hq : q ∈ [(⟨6, 0, ["width", "rows"], [1, 0]⟩ : Kws)] := hq
  simp only [List.mem_cons, List.not_mem_nil, or_false] at hq
  rcases hq with rfl
  · exact absurd hf (by decide)
theorem ok23 : DOk cfg d23 f23 23 := by
  refine ⟨by decide +kernel, fun _ _ _ _ _ _ us hl => match us, hl with | [_], _ => rfl, fun q hq hf kV doc pm an cdv ct us ws h1 h2 => ?_⟩
  have hq : q ∈ [(⟨6, 0, ["width", "rows"], [1, 0]⟩ : Kws)] := hq
  simp only [List.mem_cons, List.not_mem_nil, or_false] at hq
  rcases hq with rfl
  · exact absurd hf (by decide)
theorem oks : ∀ (f : Nat) (d : Def), cfg.tbl[f]? = some d → ∃ dd : He.DefD, fn[f]? = some dd ∧ DOk cfg d dd f
  | 0, _, rfl => ⟨_, rfl, ok0⟩
  | 1, _, rfl => ⟨_, rfl, ok1⟩
  | 2, _, rfl => ⟨_, rfl, ok2⟩
  | 3, _, rfl => ⟨_, rfl, ok3⟩
  | 4, _, rfl => ⟨_, rfl, ok4⟩
  | 5, _, rfl => ⟨_, rfl, ok5⟩
  | 6, _, rfl => ⟨_, rfl, ok6⟩
  | 7, _, rfl => ⟨_, rfl, ok7⟩
  | 8, _, rfl => ⟨_, rfl, ok8⟩
  | 9, _, rfl => ⟨_, rfl, ok9⟩
  | 10, _, rfl => ⟨_, rfl, ok10⟩
  | 11, _, rfl => ⟨_, rfl, ok11⟩
  | 12, _, rfl => ⟨_, rfl, ok12⟩
  | 13, _, rfl => ⟨_, rfl, ok13⟩
  | 14, _, rfl => ⟨_, rfl, ok14⟩
  | 15, _, rfl => ⟨_, rfl, ok15⟩
  | 16, _, rfl => ⟨_, rfl, ok16⟩
  | 17, _, rfl => ⟨_, rfl, ok17⟩
  | 18, _, rfl => ⟨_, rfl, ok18⟩
  | 19, _, rfl => ⟨_, rfl, ok19⟩
  | 20, _, rfl => ⟨_, rfl, ok20⟩
  | 21, _, rfl => ⟨_, rfl, ok21⟩
  | 22, _, rfl => ⟨_, rfl, ok22⟩
  | 23, _, rfl => ⟨_, rfl, ok23⟩
end K08

namespace K08
open PySem PySem.Spec PyProof.Rows L2 PT
abbrev hR : PySem.W.OpenRow := PySem.W.OpenLaw.row PySem.Challenge.rw_onlyprices_k08_kernel_row_whole
abbrev hk : PySem.W.Hook := hookG true 6 clss (faOf fn clss) fn (fun _ => true)
def ob (s : PySem.W.SharedT) : He.AlD × Bool := obsG true 6 clss (faOf fn clss) fn (fun _ => true) (HandSHeadRun.getT s)
theorem ob_eq (s : PySem.W.SharedT) : ob s = hk.obs s.abs := obsG_eq (HandSHeadRun.getT_eq s)
def loose0 : List PySem.Str := ["common_divisor", "lowered_row", "common_multiple", "pivot_index", "cleared_rows", "dependent_row", "kernel_row", "_law_whole", "_law_cell", "_law_digits", "_law_dot", "_law_gcd", "_law_dependent", "_law_added", "_law_small_lines", "_law_small_right", "_law_hidden", "_law_planted", "_law_full", "_law_mixed", "_law_more", "_law_planted_right", "_law_full_right"]
def loose : List PySem.Str := loose0
theorem run (w : World) : HandSHeadRun.RunEqI hR (PySem.W.view hR.prog [0, 27]) hk ob 6080 loose w := by
  unfold HandSHeadRun.RunEqI
  kernel_rfl
end K08
open PySem PySem.W PySem.Calls PyProof.Rows in
theorem PySem.Challenge.cw_onlyprices_k08_kernel_row_whole_holds : PySem.Challenge.rw_onlyprices_k08_kernel_row_whole.Holds := by
  w_on; o_law
  refine HandSHeadRun.head_imp (r := OpenLaw.row PySem.Challenge.rw_onlyprices_k08_kernel_row_whole) (q := view (OpenLaw.row PySem.Challenge.rw_onlyprices_k08_kernel_row_whole).prog [0, 27]) (H := K08.hk) (ob := K08.ob) (M := 6080) (loose := K08.loose) (d := HandSHeadRun.topDef (OpenLaw.row PySem.Challenge.rw_onlyprices_k08_kernel_row_whole).prog 27) (kwd := []) K08.ob_eq
    K08.run (by kernel_rfl) (by kernel_rfl) (by kernel_rfl) (by rfl) (by first | assumption | decide +kernel) (by decide +kernel) ⟨rfl, rfl, rfl, rfl, rfl, by decide +kernel⟩ ?hw ?hc
  case hw => w_witness2
  case hc =>
    refine L2.walk_ofE (l := PySem.Challenge.rw_onlyprices_k08_kernel_row_whole) (n := 63) (k := 2 * 6) (x := "script") (CX := L2.CX0) rfl (by decide) (by kernel_rfl) ⟨rfl, by decide, by decide⟩ ?F (fun _ _ _ _ z => z)
    intro w mg fa h Y G hmg0
    obtain ⟨K, KX, c⟩ := Y
    have hmg : mg K08.f23.name = some (.ref fa) := by
      have e : (HandSHeadRun.topDef (OpenLaw.row PySem.Challenge.rw_onlyprices_k08_kernel_row_whole).prog 27).name = K08.f23.name := by kernel_rfl
      rw [← e]
      exact hmg0
    obtain ⟨fd, hb, hs, hF⟩ := PT.law_facts (P := (PySem.Challenge.rw_onlyprices_k08_kernel_row_whole).prog) (w := w) (k := 6) (f := 23) (d := K08.d23) (x := "script") KX G c.1 (PT.cls_of c) K08.oks (fun hg => PT.gcd_of KX G c hg) rfl rfl rfl rfl rfl hmg (fun base => PT.pri_none rfl) K08.law_spec
    exact ⟨K, fd, _, KX, hb, fun H a ns hl _ hS => hs H a ns hl hS, hF⟩
