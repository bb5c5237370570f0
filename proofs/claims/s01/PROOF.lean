import PyProof.Rows.All
import Wide.All
import OpenK.AllK
import Wide.FinOn
import HandS.Base
import HandS.Call
import HandS.List
import HandS.Comp
import HandS.Iter
import HandS.ForSpec
import HandS.TupAny
import HandS.Deep
import HandS.Zip
import HandS.Walk
import KE.OsGo
import PyProof.AutoSeq1
import KE.GoesEnum
import PySem.Challenge.RW_shapebets_s01_answers
import PyVbjjac
section
set_option Elab.async false
set_option linter.all false
set_option maxRecDepth 100000
set_option maxHeartbeats 4000000
namespace Sb
open PySem PySem.Spec PyProof.Rows L2

/-! ### data -/
inductive D where
  | non
  | bl (b : Bool)
  | int (i : Int)
  | tup (ds : List D)
  | lst (ds : List D)
  | inp (ns : List Int)

mutual
inductive Rep (K : PySem.W.Frag) (H : Hp) : V → D → Prop
  | non : Rep K H .non .non
  | bl (b : Bool) : Rep K H (.bl b) (.bl b)
  | int (i : Int) : Rep K H (.int i) (.int i)
  | tup {a : Addr} {xs : List V} {ds : List D} : SqT K H a xs → RepL K H xs ds → Rep K H (.ref a) (.tup ds)
  | lst {a : Addr} {xs : List V} {ds : List D} : H a = some (.lst xs) → RepL K H xs ds → Rep K H (.ref a) (.lst ds)
  | inp {a : Addr} {ns : List Int} : SqL K H a (ns.map V.int) → Rep K H (.ref a) (.inp ns)
inductive RepL (K : PySem.W.Frag) (H : Hp) : List V → List D → Prop
  | nil : RepL K H [] []
  | cons {v : V} {vs : List V} {d : D} {ds : List D} : Rep K H v d → RepL K H vs ds → RepL K H (v :: vs) (d :: ds)
end
theorem seqT {K : PySem.W.Frag} {H H' : Hp} {a : Addr} {xs : List V} (e : Same H H') (h : SqT K H a xs) : SqT K H' a xs := by
  rcases h with (h | ⟨o, h⟩) | h
  · exact .inl (.inl (e _ _ h))
  · exact .inl (.inr ⟨o, e _ _ h⟩)
  · exact .inr h
mutual
theorem Rep.mono {K : PySem.W.Frag} {H H' : Hp} (e : Same H H') : ∀ {v : V} {d : D}, Rep K H v d → Rep K H' v d
  | _, _, .non => .non
  | _, _, .bl b => .bl b
  | _, _, .int i => .int i
  | _, _, .tup h r => .tup (seqT e h) (RepL.mono e r)
  | _, _, .lst h r => .lst (e _ _ h) (RepL.mono e r)
  | _, _, .inp h => .inp (e.seq h)
theorem RepL.mono {K : PySem.W.Frag} {H H' : Hp} (e : Same H H') : ∀ {vs : List V} {ds : List D}, RepL K H vs ds → RepL K H' vs ds
  | _, _, .nil => .nil
  | _, _, .cons h r => .cons (Rep.mono e h) (RepL.mono e r)
end
section
variable {K : PySem.W.Frag} {H : Hp}
theorem RepL.length {xs : List V} {ds : List D} (r : RepL K H xs ds) : xs.length = ds.length := by
  induction ds generalizing xs with
  | nil => cases r; rfl
  | cons d ds ih => cases r with | cons h r => simp [ih r]
theorem RepL.append : ∀ {xs ys : List V} {ds es : List D}, RepL K H xs ds → RepL K H ys es → RepL K H (xs ++ ys) (ds ++ es)
  | _, _, _, _, .nil, s => s
  | _, _, _, _, .cons r t, s => .cons r (RepL.append t s)
theorem RepL.take : ∀ {xs : List V} {ds : List D} (n : Nat), RepL K H xs ds → RepL K H (xs.take n) (ds.take n)
  | _, _, 0, _ => .nil
  | _, _, _ + 1, .nil => .nil
  | _, _, n + 1, .cons r t => .cons r (RepL.take n t)
theorem RepL.drop : ∀ {xs : List V} {ds : List D} (n : Nat), RepL K H xs ds → RepL K H (xs.drop n) (ds.drop n)
  | _, _, 0, r => r
  | _, _, _ + 1, .nil => .nil
  | _, _, n + 1, .cons _ t => RepL.drop n t
theorem RepL.get : ∀ {xs : List V} {ds : List D} {i : Nat} {d : D}, RepL K H xs ds → ds[i]? = some d → ∃ v, xs[i]? = some v ∧ Rep K H v d
  | _, _, _, _, .nil, e => by simp at e
  | _, _, 0, _, .cons r _, e => by simp at e; subst e; exact ⟨_, rfl, r⟩
  | _, _, i + 1, d, .cons _ t, e => by
    obtain ⟨u, h1, h2⟩ := RepL.get (i := i) (d := d) t (by simpa using e)
    exact ⟨u, by simpa using h1, h2⟩
theorem RepL.get' : ∀ {xs : List V} {ds : List D} {i : Nat} {v : V}, RepL K H xs ds → xs[i]? = some v → ∃ d, ds[i]? = some d ∧ Rep K H v d
  | _, _, _, _, .nil, e => by simp at e
  | _, _, 0, _, .cons r _, e => by simp at e; subst e; exact ⟨_, rfl, r⟩
  | _, _, i + 1, v, .cons _ t, e => by
    obtain ⟨u, h1, h2⟩ := RepL.get' (i := i) (v := v) t (by simpa using e)
    exact ⟨u, by simpa using h1, h2⟩
theorem RepL.ints : ∀ (ns : List Int), RepL K H (ns.map V.int) (ns.map D.int)
  | [] => .nil
  | n :: ns => .cons (.int n) (RepL.ints ns)
end

/-! ### what is hidden: lists that a def (or a comprehension) fills -/
abbrev Hid := Addr → Bool
def vis (O : Hid) (H : Hp) : Hp := fun a => if O a = true then none else H a
def Dom (O : Hid) (H : Hp) : Prop := ∀ a, O a = true → H a ≠ none
def hid (O : Hid) (p : Addr) : Hid := fun a => O a || a == p
theorem vis_same {O : Hid} {H H' : Hp} (e : Same H H') : Same (vis O H) (vis O H') := fun b o h => by
  unfold vis at h ⊢
  by_cases c : O b = true
  · rw [if_pos c] at h; cases h
  · rw [if_neg c] at h ⊢; exact e b o h
theorem vis_sub {O : Hid} {H : Hp} : Same (vis O H) H := fun b o h => by
  unfold vis at h
  by_cases c : O b = true
  · rw [if_pos c] at h; cases h
  · rw [if_neg c] at h; exact h
theorem vis_less {O O' : Hid} {H : Hp} (h : ∀ a, O a = true → O' a = true) : Same (vis O' H) (vis O H) := fun b o e => by
  unfold vis at e ⊢
  by_cases c : O' b = true
  · rw [if_pos c] at e; cases e
  · rw [if_neg c] at e
    rw [if_neg (fun z => c (h b z))]; exact e
theorem Dom.mono {O : Hid} {H H' : Hp} (d : Dom O H) (e : Same H H') : Dom O H' := fun a h q => by
  cases c : H a with
  | none => exact d a h c
  | some o => rw [e a o c] at q; cases q
theorem Dom.off {O : Hid} {H : Hp} (d : Dom O H) {p : Addr} (h : H p = none) : O p = false := by
  cases c : O p with
  | false => rfl
  | true => exact absurd h (d p c)
theorem same_upd {H : Hp} {p : Addr} {o : HO} (h : H p = none) : Same H (upd H p o) := fun b u e => by
  rw [upd_ne (ne_of_none e h)]; exact e
theorem vis_new {O : Hid} {H : Hp} {p : Addr} {o : HO} (d : Dom O H) (h : H p = none) : vis O (upd H p o) p = some o := by
  unfold vis
  rw [d.off h, if_neg Bool.false_ne_true, upd_same]
theorem hid_le {O : Hid} {p : Addr} : ∀ a, O a = true → hid O p a = true := fun a h => by unfold hid; rw [h]; rfl
theorem hid_self {O : Hid} {p : Addr} : hid O p p = true := by unfold hid; simp
theorem Dom.hid {O : Hid} {H : Hp} {p : Addr} {o : HO} (d : Dom O H) (h : H p = some o) : Dom (hid O p) H := fun a q => by
  unfold Sb.hid at q
  rw [Bool.or_eq_true] at q
  rcases q with q | q
  · exact d a q
  · have e : a = p := by simpa using q
    subst e
    rw [h]; exact fun z => nomatch z
/-- what is hidden may change -/
theorem vis_upd {O : Hid} {H : Hp} {p : Addr} {o : HO} (h : O p = true) : vis O (upd H p o) = vis O H := by
  funext b
  unfold vis
  by_cases c : O b = true
  · rw [if_pos c, if_pos c]
  · rw [if_neg c, if_neg c, upd_ne (fun e => c (by rw [e]; exact h))]

/-! ### slots -/
abbrev Sl := List (Option D)
structure Slots (K : PySem.W.Frag) (H : Hp) (sl : Sl) (σ : L2.St) : Prop where
  len : sl.length = σ.length
  get : ∀ (i : Nat) (d : D), sl[i]? = some (some d) → ∃ v, σ[i]? = some (some v) ∧ Rep K H v d
theorem Slots.mono {K : PySem.W.Frag} {H H' : Hp} {sl : Sl} {σ : L2.St} (s : Slots K H sl σ) (e : Same H H') : Slots K H' sl σ :=
  ⟨s.len, fun i d h => let ⟨v, a, b⟩ := s.get i d h; ⟨v, a, b.mono e⟩⟩
theorem Slots.set {K : PySem.W.Frag} {H : Hp} {sl : Sl} {σ : L2.St} (s : Slots K H sl σ) {i : Nat} {v : V} {d : D} (r : Rep K H v d) : Slots K H (sl.set i (some d)) (σ.set i (some v)) := by
  refine ⟨by rw [List.length_set, List.length_set, s.len], fun j e h => ?_⟩
  by_cases hj : i = j
  · subst hj
    have hl : i < sl.length := by
      have := (List.getElem?_eq_some_iff.mp h).1
      rwa [List.length_set] at this
    rw [List.getElem?_set_self hl] at h
    cases h
    exact ⟨v, List.getElem?_set_self (by rw [← s.len]; exact hl), r⟩
  · rw [List.getElem?_set_ne hj] at h ⊢
    exact s.get j e h
theorem Slots.unset {K : PySem.W.Frag} {H : Hp} {sl : Sl} {σ : L2.St} (s : Slots K H sl σ) {i : Nat} {o : Option V} : Slots K H (sl.set i none) (σ.set i o) := by
  refine ⟨by rw [List.length_set, List.length_set, s.len], fun j e h => ?_⟩
  by_cases hj : i = j
  · subst hj
    have hl : i < sl.length := by
      have := (List.getElem?_eq_some_iff.mp h).1
      rwa [List.length_set] at this
    rw [List.getElem?_set_self hl] at h
    cases h
  · rw [List.getElem?_set_ne hj] at h ⊢
    exact s.get j e h

/-! ### what a reading comes to -/
def Ev (K : PySem.W.Frag) (t : TE) (f : Sl → Option D) : Prop := ∀ sl d, f sl = some d → ∀ (O : Hid) (σ : L2.St) (H : Hp) (Q : VK), Dom O H → Slots K (vis O H) sl σ → (∀ v H', Same H H' → Rep K (vis O H') v d → Q v H') → t σ H Q
def EvT (K : PySem.W.Frag) (t : TT) (f : Sl → Option Bool) : Prop := ∀ sl b, f sl = some b → ∀ (O : Hid) (σ : L2.St) (H : Hp) (Q : Bool → Hp → Prop), Dom O H → Slots K (vis O H) sl σ → (∀ H', Same H H' → Q b H') → t σ H Q
def EvA (K : PySem.W.Frag) (t : TA) (f : Sl → Option (List D)) : Prop := ∀ sl ds, f sl = some ds → ∀ (O : Hid) (σ : L2.St) (H : Hp) (Q : List V → Hp → Prop), Dom O H → Slots K (vis O H) sl σ → (∀ vs H', Same H H' → RepL K (vis O H') vs ds → Q vs H') → t σ H Q
structure DE (X : Cx) (K : PySem.W.Frag) (e : Expr) (t : TE) (f : Sl → Option D) : Prop where
  pe : PE X e t
  kk : X.K = K
  ev : Ev K t f
structure DT (X : Cx) (K : PySem.W.Frag) (e : Expr) (t : TT) (f : Sl → Option Bool) : Prop where
  pt : PT X e t
  kk : X.K = K
  ev : EvT K t f
structure DW (X : Cx) (K : PySem.W.Frag) (e : Expr) (t : TT) (f : Sl → Option Bool) : Prop where
  pw : PW X e t
  kk : X.K = K
  ev : EvT K t f
structure DA (X : Cx) (K : PySem.W.Frag) (es : List Expr) (t : TA) (f : Sl → Option (List D)) : Prop where
  pa : PA X es t
  kk : X.K = K
  ev : EvA K t f

/-! ### names, constants -/
def fVar (i : Nat) : Sl → Option D := fun sl => (sl[i]?).join
def fC (d : D) : Sl → Option D := fun _ => some d
section
variable {X : Cx} {K : PySem.W.Frag} {e a b : Expr} {pos : Pos}
theorem de_var (i : Nat) (h : PE X e (tVar i)) (kk : X.K = K) : DE X K e (tVar i) (fVar i) := by
  refine ⟨h, kk, fun sl d hf O σ H Q dm s q => ?_⟩
  have h' : sl[i]? = some (some d) := by
    unfold fVar at hf
    cases c : sl[i]? with
    | none => rw [c] at hf; cases hf
    | some o => rw [c] at hf; cases o with
      | none => cases hf
      | some z => cases hf; rfl
  obtain ⟨v, e1, r⟩ := s.get i d h'
  exact ⟨v, e1, q v H (Same.refl H) r⟩
theorem de_con {v : V} {d : D} (h : PE X e (tC v)) (kk : X.K = K) (r : ∀ H, Rep K H v d) : DE X K e (tC v) (fC d) :=
  ⟨h, kk, fun sl d' hf O σ H Q dm s q => by cases hf; exact q v H (Same.refl H) (r _)⟩

/-! ### two operands -/
def f2 (g : D → D → Option D) (fa fb : Sl → Option D) : Sl → Option D := fun sl => (fa sl).bind fun x => (fb sl).bind fun y => g x y
def Snd2 (K : PySem.W.Frag) (r : R2) (g : D → D → Option D) : Prop := ∀ (x y : V) (a b d : D), g a b = some d → ∀ (O : Hid) (H : Hp) (Q : VK), Dom O H → Rep K (vis O H) x a → Rep K (vis O H) y b → (∀ v H', Same H H' → Rep K (vis O H') v d → Q v H') → r x y H Q
theorem ev_op {r : R2} {g : D → D → Option D} {ta tb : TE} {fa fb : Sl → Option D} (s : Snd2 K r g) (ha : Ev K ta fa) (hb : Ev K tb fb) : Ev K (tOp r ta tb) (f2 g fa fb) := by
  intro sl d hf O σ H Q dm st q
  unfold f2 at hf
  cases c1 : fa sl with
  | none => rw [c1] at hf; cases hf
  | some x =>
    cases c2 : fb sl with
    | none => rw [c1, c2] at hf; cases hf
    | some y =>
      rw [c1, c2] at hf
      refine ha sl x c1 O σ H _ dm st fun v1 H1 s1 r1 => hb sl y c2 O σ H1 _ (dm.mono s1) (st.mono (vis_same s1)) fun v2 H2 s2 r2 => ?_
      exact s v1 v2 x y d hf O H2 Q ((dm.mono s1).mono s2) (r1.mono (vis_same s2)) r2 fun v H' s3 r3 => q v H' ((s1.trans s2).trans s3) r3
end
end Sb
end
section
set_option Elab.async false
set_option linter.all false
set_option maxRecDepth 100000
set_option maxHeartbeats 4000000
namespace Sb
open PySem PySem.Spec PyProof.Rows L2
variable {K : PySem.W.Frag}

/-! ### equality of data -/
mutual
def toPy : D → PyData
  | .non => .none
  | .bl b => .bool b
  | .int i => .int i
  | .tup ds => .tuple (toPyL ds)
  | .lst ds => .list (toPyL ds)
  | .inp _ => .none
def toPyL : List D → List PyData
  | [] => []
  | d :: ds => toPy d :: toPyL ds
end
mutual
/-- data without truth values and inputs, of depth below n -/
def okD : Nat → D → Bool
  | _, .non => true
  | _, .int _ => true
  | n + 1, .tup ds => okL n ds
  | _, _ => false
def okL : Nat → List D → Bool
  | _, [] => true
  | n, d :: ds => okD n d && okL n ds
end
def eqD (a b : D) : Bool := PyData.eqv (toPy a) (toPy b)
theorem okL_cons {n : Nat} {d : D} {ds : List D} (h : okL n (d :: ds) = true) : okD n d = true ∧ okL n ds = true := by
  unfold okL at h
  rwa [Bool.and_eq_true] at h
mutual
theorem rep_dp {H : Hp} : ∀ (n : Nat) (d : D) (v : V), okD n d = true → Rep K H v d → Dp K H v (toPy d)
  | _, .non, _, _, r => by cases r; unfold toPy; exact .non
  | _, .int i, _, _, r => by cases r; unfold toPy; exact .int i
  | n + 1, .tup ds, _, h, r => by
    cases r with
    | tup q r => unfold toPy; exact .tup q (repL_dp n ds _ (by simpa [okD] using h) r)
  | 0, .tup _, _, h, _ => by simp [okD] at h
  | _, .bl _, _, h, _ => by simp [okD] at h
  | _, .lst _, _, h, _ => by simp [okD] at h
  | _, .inp _, _, h, _ => by simp [okD] at h
theorem repL_dp {H : Hp} : ∀ (n : Nat) (ds : List D) (vs : List V), okL n ds = true → RepL K H vs ds → DpAll K H vs (toPyL ds)
  | _, [], _, _, r => by cases r; unfold toPyL; exact .nil
  | n, d :: ds, _, h, r => by
    cases r with
    | cons q r =>
      have h' := okL_cons h
      unfold toPyL
      exact .cons (rep_dp n d _ h'.1 q) (repL_dp n ds _ h'.2 r)
end
mutual
theorem okD_lay : ∀ {n : Nat} {d : D}, okD n d = true → (toPy d).canLay0 = true ∧ (toPy d).depth ≤ n
  | _, .non, _ => ⟨by simp [toPy, PyData.canLay0], by simp [toPy, PyData.depth]⟩
  | _, .int _, _ => ⟨by simp [toPy, PyData.canLay0], by simp [toPy, PyData.depth]⟩
  | n + 1, .tup ds, h => by
    have q := okL_lay (n := n) (ds := ds) (by simpa [okD] using h)
    exact ⟨by simp [toPy, PyData.canLay0, q.1], by simp [toPy, PyData.depth]; exact q.2⟩
  | 0, .tup _, h => by simp [okD] at h
  | _, .bl _, h => by simp [okD] at h
  | _, .lst _, h => by simp [okD] at h
  | _, .inp _, h => by simp [okD] at h
theorem okL_lay : ∀ {n : Nat} {ds : List D}, okL n ds = true → PyData.canLayAll0 (toPyL ds) = true ∧ PyData.depthAll (toPyL ds) ≤ n
  | _, [], _ => ⟨by simp [toPyL, PyData.canLayAll0], by simp [toPyL, PyData.depthAll]⟩
  | n, d :: ds, h => by
    have h' := okL_cons h
    have q1 := okD_lay h'.1
    have q2 := okL_lay h'.2
    exact ⟨by simp [toPyL, PyData.canLayAll0, q1.1, q2.1], by simp only [toPyL, PyData.depthAll]; omega⟩
end
theorem okD_shaped {n : Nat} {d : D} (h : okD n d = true) (hn : n ≤ 64) : SeqAt.shaped (toPy d) = true := by
  have q := okD_lay h
  unfold SeqAt.shaped
  rw [Bool.and_eq_true]
  exact ⟨q.1, decide_eq_true (Nat.le_trans q.2 hn)⟩
theorem okL_shaped {n : Nat} {ds : List D} (h : okL n ds = true) (hn : n + 1 ≤ 64) : SeqAt.shaped (.list (toPyL ds)) = true := by
  have q := okL_lay h
  unfold SeqAt.shaped
  rw [Bool.and_eq_true]
  exact ⟨by simp [PyData.canLay0, q.1], decide_eq_true (by simp only [PyData.depth]; omega)⟩
mutual
theorem eqD_iff : ∀ {n m : Nat} {a b : D}, okD n a = true → okD m b = true → (PyData.eqv (toPy a) (toPy b) = true ↔ a = b)
  | _, _, .non, .non, _, _ => by simp [toPy, PyData.eqv]
  | _, _, .non, .int _, _, _ => by simp [toPy, PyData.eqv]
  | _, _, .non, .tup _, _, _ => by simp [toPy, PyData.eqv]
  | _, _, .int _, .non, _, _ => by simp [toPy, PyData.eqv]
  | _, _, .int _, .int _, _, _ => by simp [toPy, PyData.eqv]
  | _, _, .int _, .tup _, _, _ => by simp [toPy, PyData.eqv]
  | _, _, .tup _, .non, _, _ => by simp [toPy, PyData.eqv]
  | _, _, .tup _, .int _, _, _ => by simp [toPy, PyData.eqv]
  | n + 1, m + 1, .tup xs, .tup ys, h1, h2 => by
    have q := eqL_iff (n := n) (m := m) (as := xs) (bs := ys) (by simpa [okD] using h1) (by simpa [okD] using h2)
    simp only [toPy, PyData.eqv, D.tup.injEq]
    exact q
  | 0, _, .tup _, .tup _, h, _ => by simp [okD] at h
  | _, 0, .tup _, .tup _, _, h => by simp [okD] at h
  | _, _, .bl _, _, h, _ => by simp [okD] at h
  | _, _, .lst _, _, h, _ => by simp [okD] at h
  | _, _, .inp _, _, h, _ => by simp [okD] at h
  | _, _, _, .bl _, _, h => by simp [okD] at h
  | _, _, _, .lst _, _, h => by simp [okD] at h
  | _, _, _, .inp _, _, h => by simp [okD] at h
theorem eqL_iff : ∀ {n m : Nat} {as bs : List D}, okL n as = true → okL m bs = true → (PyData.eqvAll (toPyL as) (toPyL bs) = true ↔ as = bs)
  | _, _, [], [], _, _ => by simp [toPyL, PyData.eqvAll]
  | _, _, [], _ :: _, _, _ => by simp [toPyL, PyData.eqvAll]
  | _, _, _ :: _, [], _, _ => by simp [toPyL, PyData.eqvAll]
  | n, m, a :: as, b :: bs, h1, h2 => by
    have h1' := okL_cons h1
    have h2' := okL_cons h2
    have q1 := eqD_iff h1'.1 h2'.1
    have q2 := eqL_iff h1'.2 h2'.2
    simp only [toPyL, PyData.eqvAll, Bool.and_eq_true, List.cons.injEq, q1, q2]
end
theorem eqD_dec {n m : Nat} {a b : D} (h1 : okD n a = true) (h2 : okD m b = true) : (eqD a b = true ↔ a = b) := eqD_iff h1 h2

/-! ### operators -/
def line : Nat := 16777216
theorem line_is : sizeLine = line := sizeLine_eq
def gAdd : D → D → Option D
  | .int i, .int j => some (.int (i + j))
  | .tup a, .tup b => if a.length + b.length ≤ line then some (.tup (a ++ b)) else none
  | .lst a, .lst b => if a.length + b.length ≤ line then some (.lst (a ++ b)) else none
  | _, _ => none
def gSub : D → D → Option D
  | .int i, .int j => some (.int (i - j))
  | _, _ => none
def gMod : D → D → Option D
  | .int i, .int j => if 0 < j then some (.int (i % j)) else none
  | _, _ => none
def gLt : D → D → Option D
  | .int i, .int j => some (.bl (decide (i < j)))
  | _, _ => none
def gLe : D → D → Option D
  | .int i, .int j => some (.bl (decide (i ≤ j)))
  | _, _ => none
def gGt : D → D → Option D
  | .int i, .int j => some (.bl (decide (j < i)))
  | _, _ => none
def gGe : D → D → Option D
  | .int i, .int j => some (.bl (decide (j ≤ i)))
  | _, _ => none
def gEq (a b : D) : Option D := if (okD 60 a && okD 60 b) = true then some (.bl (eqD a b)) else none
def gNe (a b : D) : Option D := if (okD 60 a && okD 60 b) = true then some (.bl (!eqD a b)) else none
def isNonD : D → Bool
  | .non => true
  | _ => false
def gIs (a b : D) : Option D := if isNonD b = true then some (.bl (isNonD a)) else none
def gIsNot (a b : D) : Option D := if isNonD b = true then some (.bl (!isNonD a)) else none
def gIn : D → D → Option D
  | a, .lst ds => if (okD 60 a && okL 60 ds) = true then some (.bl (ds.any fun z => eqD z a)) else none
  | _, _ => none
def gNotIn : D → D → Option D
  | a, .lst ds => if (okD 60 a && okL 60 ds) = true then some (.bl (!ds.any fun z => eqD z a)) else none
  | _, _ => none
def gIx : D → D → Option D
  | .tup ds, .int i => atI ds i
  | .lst ds, .int i => atI ds i
  | .inp ns, .int i => (atI ns i).map D.int
  | _, _ => none

def rPlus (K : PySem.W.Frag) : R2 := fun x y H Q => rI0 (fun i j => .int (i + j)) x y H Q ∨ (rCatA K x y H Q ∨ rCat x y H Q)
theorem op_plus {X : Cx} (kk : X.K = K) : OpR X (binaryOp .Add) (rPlus K) := by subst kk; exact op_add.or (op_catA.or op_cat)
theorem snd_plus : Snd2 K (rPlus K) gAdd := by
  intro x y a b d h O H Q dm rx ry q
  cases rx with
  | int i => cases ry with
    | int j => cases h; exact .inl ⟨i, j, rfl, rfl, q _ H (Same.refl H) (.int _)⟩
    | _ => cases h
  | tup h1 r1 => cases ry with
    | tup h2 r2 =>
      rename_i a1 xs ds a2 ys es
      unfold gAdd at h
      simp only at h
      split at h
      · rename_i hl
        cases h
        refine .inr (.inl ⟨a1, a2, xs, ys, rfl, rfl, seqT vis_sub h1, seqT vis_sub h2, by rw [line_is, r1.length, r2.length]; exact hl, fun e => ?_, fun _ e => ?_, fun _ _ p hp => ?_⟩)
        · subst e
          cases r1
          exact q _ H (Same.refl H) (.tup h2 r2)
        · subst e
          cases r2
          rw [List.append_nil] at q
          exact q _ H (Same.refl H) (.tup h1 r1)
        · refine q _ _ (same_upd hp) (.tup (SqT.of (vis_new dm hp)) ?_)
          exact (r1.mono (vis_same (same_upd hp))).append (r2.mono (vis_same (same_upd hp)))
      · cases h
    | _ => cases h
  | lst h1 r1 => cases ry with
    | lst h2 r2 =>
      rename_i a1 xs ds a2 ys es
      unfold gAdd at h
      simp only at h
      split at h
      · rename_i hl
        cases h
        refine .inr (.inr ⟨a1, a2, xs, ys, rfl, rfl, vis_sub _ _ h1, vis_sub _ _ h2, by rw [line_is, r1.length, r2.length]; exact hl, fun p hp => ?_⟩)
        exact q _ _ (same_upd hp) (.lst (vis_new dm hp) ((r1.mono (vis_same (same_upd hp))).append (r2.mono (vis_same (same_upd hp)))))
      · cases h
    | _ => cases h
  | _ => cases ry <;> cases h
theorem snd_ints {C : Int → Int → V} {g : D → D → Option D} {h : Int → Int → D} (e : ∀ a b d, g a b = some d → ∃ i j, a = .int i ∧ b = .int j ∧ d = h i j) (r : ∀ i j H, Rep K H (C i j) (h i j)) : Snd2 K (rI0 C) g := by
  intro x y a b d hg O H Q dm rx ry q
  obtain ⟨i, j, rfl, rfl, rfl⟩ := e a b d hg
  cases rx
  cases ry
  exact ⟨i, j, rfl, rfl, q _ H (Same.refl H) (r i j _)⟩
theorem snd_sub : Snd2 K (rI0 fun i j => .int (i - j)) gSub := snd_ints (h := fun i j => .int (i - j)) (fun a b d h => by
  cases a <;> cases b <;> first | (cases h; exact ⟨_, _, rfl, rfl, rfl⟩) | cases h) fun i j H => .int _
theorem snd_lt : Snd2 K (rI0 fun i j => .bl (decide (i < j))) gLt := snd_ints (h := fun i j => .bl (decide (i < j))) (fun a b d h => by
  cases a <;> cases b <;> first | (cases h; exact ⟨_, _, rfl, rfl, rfl⟩) | cases h) fun i j H => .bl _
theorem snd_le : Snd2 K (rI0 fun i j => .bl (decide (i ≤ j))) gLe := snd_ints (h := fun i j => .bl (decide (i ≤ j))) (fun a b d h => by
  cases a <;> cases b <;> first | (cases h; exact ⟨_, _, rfl, rfl, rfl⟩) | cases h) fun i j H => .bl _
theorem snd_gt : Snd2 K (rI0 fun i j => .bl (decide (j < i))) gGt := snd_ints (h := fun i j => .bl (decide (j < i))) (fun a b d h => by
  cases a <;> cases b <;> first | (cases h; exact ⟨_, _, rfl, rfl, rfl⟩) | cases h) fun i j H => .bl _
theorem snd_ge : Snd2 K (rI0 fun i j => .bl (decide (j ≤ i))) gGe := snd_ints (h := fun i j => .bl (decide (j ≤ i))) (fun a b d h => by
  cases a <;> cases b <;> first | (cases h; exact ⟨_, _, rfl, rfl, rfl⟩) | cases h) fun i j H => .bl _
theorem snd_mod : Snd2 K (rI (fun _ j => 0 < j) fun i j => .int (i % j)) gMod := by
  intro x y a b d hg O H Q dm rx ry q
  cases rx with
  | int i => cases ry with
    | int j =>
      unfold gMod at hg
      simp only at hg
      split at hg
      · rename_i hj
        cases hg
        exact ⟨i, j, rfl, rfl, hj, q _ H (Same.refl H) (.int _)⟩
      · cases hg
    | _ => cases hg
  | _ => cases ry <;> cases hg
theorem snd_eq : Snd2 K (rEqD K) gEq := by
  intro x y a b d hg O H Q dm rx ry q
  unfold gEq at hg
  split at hg
  · rename_i h
    rw [Bool.and_eq_true] at h
    cases hg
    exact ⟨toPy a, toPy b, rep_dp _ _ _ h.1 (rx.mono vis_sub), rep_dp _ _ _ h.2 (ry.mono vis_sub), okD_shaped h.1 (by decide), okD_shaped h.2 (by decide), q _ H (Same.refl H) (.bl _)⟩
  · cases hg
theorem snd_ne : Snd2 K (rNeD K) gNe := by
  intro x y a b d hg O H Q dm rx ry q
  unfold gNe at hg
  split at hg
  · rename_i h
    rw [Bool.and_eq_true] at h
    cases hg
    exact ⟨toPy a, toPy b, rep_dp _ _ _ h.1 (rx.mono vis_sub), rep_dp _ _ _ h.2 (ry.mono vis_sub), okD_shaped h.1 (by decide), okD_shaped h.2 (by decide), q _ H (Same.refl H) (.bl _)⟩
  · cases hg
theorem toPyL_any (f : PyData → Bool) : ∀ ds : List D, (toPyL ds).any f = ds.any fun z => f (toPy z)
  | [] => by unfold toPyL; rfl
  | d :: ds => by unfold toPyL; rw [List.any_cons, List.any_cons, toPyL_any f ds]
theorem snd_in : Snd2 K (rInD K) gIn := by
  intro x y a b d hg O H Q dm rx ry q
  cases ry with
  | lst h1 r1 =>
    rename_i a1 xs ds
    unfold gIn at hg
    simp only at hg
    split at hg
    · rename_i h
      rw [Bool.and_eq_true] at h
      cases hg
      refine ⟨toPy a, toPyL ds, rep_dp _ _ _ h.1 (rx.mono vis_sub), .lst (SqL.of (vis_sub _ _ h1)) (repL_dp _ _ _ h.2 (r1.mono vis_sub)), okD_shaped h.1 (by decide), okL_shaped h.2 (by decide), ?_⟩
      rw [toPyL_any]
      exact q _ H (Same.refl H) (.bl _)
    · cases hg
  | _ => cases hg
theorem snd_notIn : Snd2 K (rNotInD K) gNotIn := by
  intro x y a b d hg O H Q dm rx ry q
  cases ry with
  | lst h1 r1 =>
    rename_i a1 xs ds
    unfold gNotIn at hg
    simp only at hg
    split at hg
    · rename_i h
      rw [Bool.and_eq_true] at h
      cases hg
      refine ⟨toPy a, toPyL ds, rep_dp _ _ _ h.1 (rx.mono vis_sub), .lst (SqL.of (vis_sub _ _ h1)) (repL_dp _ _ _ h.2 (r1.mono vis_sub)), okD_shaped h.1 (by decide), okL_shaped h.2 (by decide), ?_⟩
      rw [toPyL_any]
      exact q _ H (Same.refl H) (.bl _)
    · cases hg
  | _ => cases hg
theorem rep_non {H : Hp} {v : V} {d : D} (r : Rep K H v d) : decide (v = .non) = isNonD d := by
  cases r <;> rfl
theorem snd_is : Snd2 K (fun x y H Q => y = .non ∧ Q (.bl (decide (x = .non))) H) gIs := by
  intro x y a b d hg O H Q dm rx ry q
  unfold gIs at hg
  split at hg
  · rename_i h
    cases hg
    refine ⟨?_, ?_⟩
    · cases ry <;> first | rfl | cases h
    · rw [rep_non rx]; exact q _ H (Same.refl H) (.bl _)
  · cases hg
theorem snd_isNot : Snd2 K (fun x y H Q => y = .non ∧ Q (.bl (!decide (x = .non))) H) gIsNot := by
  intro x y a b d hg O H Q dm rx ry q
  unfold gIsNot at hg
  split at hg
  · rename_i h
    cases hg
    refine ⟨?_, ?_⟩
    · cases ry <;> first | rfl | cases h
    · rw [rep_non rx]; exact q _ H (Same.refl H) (.bl _)
  · cases hg
theorem atI_rep {H : Hp} {xs : List V} {ds : List D} {i : Int} {d : D} (r : RepL K H xs ds) (h : atI ds i = some d) : ∃ v, atI xs i = some v ∧ Rep K H v d := by
  unfold atI at h ⊢
  rw [r.length]
  cases c : ixN ds.length i with
  | none => rw [c] at h; cases h
  | some j => rw [c] at h; exact r.get h
theorem atI_map {α β : Type} (f : α → β) (xs : List α) (i : Int) : atI (xs.map f) i = (atI xs i).map f := by
  unfold atI
  rw [List.length_map]
  cases c : ixN xs.length i with
  | none => rfl
  | some j => simp
theorem snd_ix : Snd2 K (rIx K) gIx := by
  intro x y a b d hg O H Q dm rx ry q
  cases ry with
  | int i => cases rx with
    | tup h1 r1 =>
      obtain ⟨v, e, r⟩ := atI_rep r1 hg
      exact .inr (.inl ⟨_, _, i, v, rfl, rfl, seqT vis_sub h1, e, q v H (Same.refl H) r⟩)
    | lst h1 r1 =>
      obtain ⟨v, e, r⟩ := atI_rep r1 hg
      exact .inl ⟨_, _, i, v, rfl, rfl, SqL.of (vis_sub _ _ h1), e, q v H (Same.refl H) r⟩
    | inp h1 =>
      rename_i a1 ns
      have hg' : (atI ns i).map D.int = some d := hg
      cases c : atI ns i with
      | none => rw [c] at hg'; cases hg'
      | some z =>
        rw [c] at hg'
        cases hg'
        exact .inl ⟨_, _, i, .int z, rfl, rfl, vis_sub.seq h1, by rw [atI_map, c]; rfl, q _ H (Same.refl H) (.int z)⟩
    | _ => cases hg
  | _ => cases rx <;> cases hg

section
variable {X : Cx} {a b c : Expr} {ta tb tc : TE} {fa fb fc : Sl → Option D} {pos : Pos}
theorem de_plus (ha : DE X K a ta fa) (hb : DE X K b tb fb) : DE X K (.BinOp a .Add b pos) (tOp (rPlus K) ta tb) (f2 gAdd fa fb) := ⟨pe_op (op_plus ha.kk) ha.pe hb.pe, ha.kk, ev_op snd_plus ha.ev hb.ev⟩
theorem de_minus (ha : DE X K a ta fa) (hb : DE X K b tb fb) : DE X K (.BinOp a .Sub b pos) (tOp (rI0 fun i j => .int (i - j)) ta tb) (f2 gSub fa fb) := ⟨pe_op op_sub ha.pe hb.pe, ha.kk, ev_op snd_sub ha.ev hb.ev⟩
theorem de_mod (ha : DE X K a ta fa) (hb : DE X K b tb fb) : DE X K (.BinOp a .Mod b pos) (tOp (rI (fun _ j => 0 < j) fun i j => .int (i % j)) ta tb) (f2 gMod fa fb) := ⟨pe_op op_mod ha.pe hb.pe, ha.kk, ev_op snd_mod ha.ev hb.ev⟩
theorem de_ix (ha : DE X K a ta fa) (hb : DE X K b tb fb) (hs : PlainIx b) : DE X K (.Subscript a b pos) (tOp (rIx K) ta tb) (f2 gIx fa fb) := ⟨by
  have k := ha.kk
  subst k
  exact pe_ix ix_seq ha.pe hb.pe hs, ha.kk, ev_op snd_ix ha.ev hb.ev⟩
/-- the comparisons: an operator, its reading, what it comes to -/
structure Cmp (X : Cx) (K : PySem.W.Frag) (op : CmpOp) (r : R2) (g : D → D → Option D) : Prop where
  ho : OpR X (compareOp op) r
  snd : Snd2 K r g
theorem c_lt : Cmp X K .Lt (rI0 fun i j => .bl (decide (i < j))) gLt := ⟨op_lt, snd_lt⟩
theorem c_le : Cmp X K .LtE (rI0 fun i j => .bl (decide (i ≤ j))) gLe := ⟨op_le, snd_le⟩
theorem c_gt : Cmp X K .Gt (rI0 fun i j => .bl (decide (j < i))) gGt := ⟨op_gt, snd_gt⟩
theorem c_ge : Cmp X K .GtE (rI0 fun i j => .bl (decide (j ≤ i))) gGe := ⟨op_ge, snd_ge⟩
theorem c_eq {k : Nat} (hr : Room k X.A) (kk : X.K = K) : Cmp X K .Eq (rEqD K) gEq := by subst kk; exact ⟨op_eqD hr.units, snd_eq⟩
theorem c_ne {k : Nat} (hr : Room k X.A) (kk : X.K = K) : Cmp X K .NotEq (rNeD K) gNe := by subst kk; exact ⟨op_neD hr.units, snd_ne⟩
theorem c_in {k : Nat} (hr : Room k X.A) (kk : X.K = K) : Cmp X K .In (rInD K) gIn := by subst kk; exact ⟨op_inD (by have := hr.un; omega), snd_in⟩
theorem c_notIn {k : Nat} (hr : Room k X.A) (kk : X.K = K) : Cmp X K .NotIn (rNotInD K) gNotIn := by subst kk; exact ⟨op_notInD (by have := hr.un; omega), snd_notIn⟩
theorem c_is : Cmp X K .Is (fun x y H Q => y = .non ∧ Q (.bl (decide (x = .non))) H) gIs := ⟨op_isN, snd_is⟩
theorem c_isNot : Cmp X K .IsNot (fun x y H Q => y = .non ∧ Q (.bl (!decide (x = .non))) H) gIsNot := ⟨op_notN, snd_isNot⟩
variable {op op' : CmpOp} {r r' : R2} {g g' : D → D → Option D}
theorem de_cmp (hc : Cmp X K op r g) (ha : DE X K a ta fa) (hb : DE X K b tb fb) (hm : behindInMarks op b = false) : DE X K (.Compare a [op] [b] pos) (tOp r ta tb) (f2 g fa fb) := ⟨pe_cmpR hc.ho ha.pe hb.pe hm, ha.kk, ev_op hc.snd ha.ev hb.ev⟩
/-- a truth value as a test -/
def fT (f : Sl → Option D) : Sl → Option Bool := fun sl => (f sl).bind fun d => match d with
  | .bl b => some b
  | _ => none
theorem evT_of {t : TE} {f : Sl → Option D} (h : Ev K t f) : EvT K (tTest t) (fT f) := by
  intro sl b hf O σ H Q dm st q
  unfold fT at hf
  cases c1 : f sl with
  | none => rw [c1] at hf; cases hf
  | some x =>
    rw [c1] at hf
    cases x with
    | bl k =>
      cases hf
      refine h sl _ c1 O σ H _ dm st fun v H1 s1 r1 => ?_
      cases r1
      exact ⟨_, rfl, q H1 s1⟩
    | _ => cases hf
theorem dt_cmp (hc : Cmp X K op r g) (ha : DE X K a ta fa) (hb : DE X K b tb fb) (hm : behindInMarks op b = false) : DT X K (.Compare a [op] [b] pos) (tTest (tOp r ta tb)) (fT (f2 g fa fb)) := ⟨pt_cmpR hc.ho ha.pe hb.pe hm, ha.kk, evT_of (ev_op hc.snd ha.ev hb.ev)⟩
theorem dt_val {e : Expr} {t : TE} {f : Sl → Option D} (h : DE X K e t f) (he : ∀ whole, isTrue e X.env whole = (do let v ← whole; standAt e.pos; holding [v] (truthy v)) := by intro _; rfl) : DT X K e (tTest t) (fT f) := ⟨pt_val h.pe he, h.kk, evT_of h.ev⟩
/-- a chain -/
def f3 (g g' : D → D → Option D) (fa fb fc : Sl → Option D) : Sl → Option D := fun sl => (fa sl).bind fun x => (fb sl).bind fun y => (g x y).bind fun z => match z with
  | .bl k => if k = true then (fc sl).bind fun w => g' y w else some (.bl false)
  | _ => none
theorem ev_chain (h1 : Snd2 K r g) (h2 : Snd2 K r' g') (ha : Ev K ta fa) (hb : Ev K tb fb) (hc : Ev K tc fc) : Ev K (tChain r r' ta tb tc) (f3 g g' fa fb fc) := by
  intro sl d hf O σ H Q dm st q
  unfold f3 at hf
  cases e1 : fa sl with
  | none => rw [e1] at hf; cases hf
  | some x =>
    cases e2 : fb sl with
    | none => rw [e1, e2] at hf; cases hf
    | some y =>
      cases e3 : g x y with
      | none => rw [e1, e2] at hf; simp only [Option.bind_some, e3] at hf; cases hf
      | some z =>
        rw [e1, e2] at hf
        simp only [Option.bind_some, e3] at hf
        refine ha sl x e1 O σ H _ dm st fun v1 H1 s1 r1 => hb sl y e2 O σ H1 _ (dm.mono s1) (st.mono (vis_same s1)) fun v2 H2 s2 r2 => ?_
        refine h1 v1 v2 x y z e3 O H2 _ ((dm.mono s1).mono s2) (r1.mono (vis_same s2)) r2 fun v3 H3 s3 r3 => ?_
        cases z with
        | bl k =>
          cases r3
          refine ⟨k, rfl, ?_⟩
          cases k with
          | false =>
            rw [if_neg Bool.false_ne_true]
            cases hf
            exact q _ H3 ((s1.trans s2).trans s3) (.bl false)
          | true =>
            rw [if_pos rfl]
            simp only [if_true] at hf
            cases e4 : fc sl with
            | none => rw [e4] at hf; cases hf
            | some w =>
              rw [e4] at hf
              have s123 := (s1.trans s2).trans s3
              refine hc sl w e4 O σ H3 _ (dm.mono s123) (st.mono (vis_same s123)) fun v4 H4 s4 r4 => ?_
              exact h2 v2 v4 y w d hf O H4 Q ((dm.mono s123).mono s4) ((r2.mono (vis_same s3)).mono (vis_same s4)) r4 fun v H' s5 r5 => q v H' ((s123.trans s4).trans s5) r5
        | _ => cases hf
theorem de_chain (h1 : Cmp X K op r g) (h2 : Cmp X K op' r' g') (ha : DE X K a ta fa) (hb : DE X K b tb fb) (hc : DE X K c tc fc) (hm : lastMarks [op, op'] [b, c] = false := by with_unfolding_all rfl) : DE X K (.Compare a [op, op'] [b, c] pos) (tChain r r' ta tb tc) (f3 g g' fa fb fc) :=
  ⟨pe_chain h1.ho h2.ho ha.pe hb.pe hc.pe hm, ha.kk, ev_chain h1.snd h2.snd ha.ev hb.ev hc.ev⟩
theorem dt_chain (h1 : Cmp X K op r g) (h2 : Cmp X K op' r' g') (ha : DE X K a ta fa) (hb : DE X K b tb fb) (hc : DE X K c tc fc) (hm : lastMarks [op, op'] [b, c] = false := by with_unfolding_all rfl) : DT X K (.Compare a [op, op'] [b, c] pos) (tTest (tChain r r' ta tb tc)) (fT (f3 g g' fa fb fc)) :=
  ⟨pt_chain h1.ho h2.ho ha.pe hb.pe hc.pe hm, ha.kk, evT_of (ev_chain h1.snd h2.snd ha.ev hb.ev hc.ev)⟩

/-! ### and, or, not -/
variable {tA tB' : TT} {pA pB : Sl → Option Bool} {rest : List Expr}
def fAnd (pA pB : Sl → Option Bool) : Sl → Option Bool := fun sl => (pA sl).bind fun c => if c = true then pB sl else some false
def fOr (pA pB : Sl → Option Bool) : Sl → Option Bool := fun sl => (pA sl).bind fun c => if c = true then some true else pB sl
def fNot (pA : Sl → Option Bool) : Sl → Option Bool := fun sl => (pA sl).map fun c => !c
theorem dw_and1 (ha : DT X K a tA pA) : DW X K (.BoolOp .And [a] pos) tA pA := ⟨pw_and1 ha.pt, ha.kk, ha.ev⟩
theorem dw_or1 (ha : DT X K a tA pA) : DW X K (.BoolOp .Or [a] pos) tA pA := ⟨pw_or1 ha.pt, ha.kk, ha.ev⟩
theorem dw_and (ha : DT X K a tA pA) (hb : DW X K (.BoolOp .And (b :: rest) pos) tB' pB) : DW X K (.BoolOp .And (a :: b :: rest) pos) (tAnd tA tB') (fAnd pA pB) := by
  refine ⟨pw_and ha.pt hb.pw, ha.kk, fun sl z hf O σ H Q dm st q => ?_⟩
  unfold fAnd at hf
  cases c : pA sl with
  | none => rw [c] at hf; cases hf
  | some k =>
    rw [c] at hf
    refine ha.ev sl k c O σ H _ dm st fun H1 s1 => ?_
    cases k with
    | true => exact iteT (hb.ev sl z hf O σ H1 _ (dm.mono s1) (st.mono (vis_same s1)) fun H' s' => q H' (s1.trans s'))
    | false => cases hf; exact iteF (q H1 s1)
theorem dw_or (ha : DT X K a tA pA) (hb : DW X K (.BoolOp .Or (b :: rest) pos) tB' pB) : DW X K (.BoolOp .Or (a :: b :: rest) pos) (tOr tA tB') (fOr pA pB) := by
  refine ⟨pw_or ha.pt hb.pw, ha.kk, fun sl z hf O σ H Q dm st q => ?_⟩
  unfold fOr at hf
  cases c : pA sl with
  | none => rw [c] at hf; cases hf
  | some k =>
    rw [c] at hf
    refine ha.ev sl k c O σ H _ dm st fun H1 s1 => ?_
    cases k with
    | false => exact iteF (hb.ev sl z hf O σ H1 _ (dm.mono s1) (st.mono (vis_same s1)) fun H' s' => q H' (s1.trans s'))
    | true => cases hf; exact iteT (q H1 s1)
theorem dt_w {e : Expr} (h : DW X K e tA pA) : DT X K e tA pA := ⟨h.pw.pt, h.kk, h.ev⟩
theorem dt_not (ha : DT X K a tA pA) : DT X K (.UnaryOp .Not a pos) (tNot tA) (fNot pA) := by
  refine ⟨pt_not ha.pt, ha.kk, fun sl z hf O σ H Q dm st q => ?_⟩
  unfold fNot at hf
  cases c : pA sl with
  | none => rw [c] at hf; cases hf
  | some k =>
    rw [c] at hf
    cases hf
    exact ha.ev sl k c O σ H _ dm st q
/-- as values -/
def fAndV (fa fb : Sl → Option D) : Sl → Option D := fun sl => (fT fa sl).bind fun c => if c = true then fb sl else some (.bl false)
def fOrV (fa fb : Sl → Option D) : Sl → Option D := fun sl => (fT fa sl).bind fun c => if c = true then some (.bl true) else fb sl
theorem de_one {bop : PySem.BoolOp} (h : DE X K a ta fa) : DE X K (.BoolOp bop [a] pos) ta fa := ⟨pe_one h.pe, h.kk, h.ev⟩
theorem de_and (ha : DE X K a ta fa) (hb : DE X K (.BoolOp .And (b :: rest) pos) tb fb) : DE X K (.BoolOp .And (a :: b :: rest) pos) (tAndV ta tb) (fAndV fa fb) := by
  refine ⟨pe_and ha.pe hb.pe, ha.kk, fun sl z hf O σ H Q dm st q => ?_⟩
  unfold fAndV at hf
  cases c : fT fa sl with
  | none => rw [c] at hf; cases hf
  | some k =>
    rw [c] at hf
    refine evT_of ha.ev sl k c O σ H (fun k H1 => if k = true then tb σ H1 Q else Q (.bl false) H1) dm st fun H1 s1 => ?_
    cases k with
    | true => exact iteT (hb.ev sl z hf O σ H1 _ (dm.mono s1) (st.mono (vis_same s1)) fun v H' s' r => q v H' (s1.trans s') r)
    | false => cases hf; exact iteF (q _ H1 s1 (.bl false))
theorem de_or (ha : DE X K a ta fa) (hb : DE X K (.BoolOp .Or (b :: rest) pos) tb fb) : DE X K (.BoolOp .Or (a :: b :: rest) pos) (tOrV ta tb) (fOrV fa fb) := by
  refine ⟨pe_or ha.pe hb.pe, ha.kk, fun sl z hf O σ H Q dm st q => ?_⟩
  unfold fOrV at hf
  cases c : fT fa sl with
  | none => rw [c] at hf; cases hf
  | some k =>
    rw [c] at hf
    refine evT_of ha.ev sl k c O σ H (fun k H1 => if k = true then Q (.bl true) H1 else tb σ H1 Q) dm st fun H1 s1 => ?_
    cases k with
    | false => exact iteF (hb.ev sl z hf O σ H1 _ (dm.mono s1) (st.mono (vis_same s1)) fun v H' s' r => q v H' (s1.trans s') r)
    | true => cases hf; exact iteT (q _ H1 s1 (.bl true))
def gNeg : D → Option D
  | .int i => some (.int (-i))
  | _ => none
def f1 (g : D → Option D) (fa : Sl → Option D) : Sl → Option D := fun sl => (fa sl).bind g
theorem de_neg (ha : DE X K a ta fa) : DE X K (.UnaryOp .USub a pos) (tUn (rU fun i => .int (-i)) ta) (f1 gNeg fa) := by
  refine ⟨pe_un un_neg ha.pe, ha.kk, fun sl z hf O σ H Q dm st q => ?_⟩
  unfold f1 at hf
  cases c : fa sl with
  | none => rw [c] at hf; cases hf
  | some x =>
    rw [c] at hf
    refine ha.ev sl x c O σ H _ dm st fun v H1 s1 r => ?_
    cases r with
    | int i => cases hf; exact ⟨i, rfl, q _ H1 s1 (.int _)⟩
    | _ => cases hf
end
end Sb
end
section
set_option Elab.async false
set_option linter.all false
set_option maxRecDepth 100000
set_option maxHeartbeats 4000000
/-! ### enumerate(tuple), list.extend(tuple): two rules that the layer lacks -/
namespace Sb
open PySem
theorem enum_new_one {v : Value} {o : Obj} {Hh : Heap → Prop} (B : Begins v o Hh) :
    Meets (Builtin.«enumerate.__new__» ⟨[.type "enumerate", v], []⟩) (fun _ R s => Hh s.heap ∧
      R (.ok (.ret (.ref (s.heap.push o).objs.size))) { s with heap := (s.heap.push o).push { cls := .type "enumerate", data := .fields #[.none, .bool false, .ref s.heap.objs.size, rawInt 0, .none, .none] } }) :=
  .of_wp fun prog w A R s h => by
    obtain ⟨hp, g, d, tk, os⟩ := s; obtain ⟨h1, h⟩ := h
    have hsub := sub_enumerate
    have q1 : ∀ {A' : Around} {E : Value → Shared → Prop} {Q : Value → Shared → Prop}, Q (.ref hp.objs.size) ⟨hp.push o, g, d, tk, os⟩ → wpAny (model prog w) A' (pyIter v) Q E ⟨hp, g, d, tk, os⟩ :=
      fun q => B.iter prog w _ _ ⟨hp, g, d, tk, os⟩ _ h1 q
    wp_walk using q1
    refine wpAny_stack_any fun st => wpAny_pure ?_
    split
    · rename_i c _ _ _ _ _
      cases (c == Value.type "enumerate")
      · wp_walk using q1
        exact ⟨_, rfl, h⟩
      · wp_walk using q1
        exact ⟨_, rfl, h⟩
    · wp_walk using q1
      exact ⟨_, rfl, h⟩
section
variable {prog : Program} {w : World} {A : Around} {E : Value → Shared → Prop} {s : Shared}
theorem call_enum_one {v : Value} {o : Obj} {Hh : Heap → Prop} {Q : Value → Shared → Prop} (B : Begins v o Hh) (h1 : Hh s.heap)
    (h : ∀ h', IsEnum h' (s.heap.objs.size + 1) s.heap.objs.size 0 .none → h'.get? s.heap.objs.size = some o → h'.objs.size = s.heap.objs.size + 2 →
      (∀ b o, s.heap.get? b = some o → h'.get? b = some o) → Q (.ref (s.heap.objs.size + 1)) { s with heap := h' }) :
    wpAny (model prog w) A (call (.type "enumerate") [v]) Q E s := by
  refine callType_new F.called_enumerate (by decide) (F.typeCall_enumerate_1 _) (F.newCall_enumerate_1 _) (fun obj => F.args_object_init_2 obj _) F.entry_enumerate_new
    (enum_new_one B) ⟨h1, ?_⟩
  have hz : (s.heap.push o).objs.size = s.heap.objs.size + 1 := Heap.size_push ..
  show _ ∧ _
  rw [hz]
  have he : IsEnum ((s.heap.push o).push { cls := .type "enumerate", data := .fields #[.none, .bool false, .ref s.heap.objs.size, rawInt 0, .none, .none] }) (s.heap.objs.size + 1) s.heap.objs.size 0 .none := by
    have := Heap.get?_push_size (s.heap.push o) (o := { cls := .type "enumerate", data := .fields #[.none, .bool false, .ref s.heap.objs.size, rawInt 0, .none, .none] }) rfl
    rw [hz] at this; exact this
  refine ⟨⟨_, he, rfl⟩, h _ he (Heap.get?_push_of_some _ (Heap.get?_push_size _ B.free)) (by rw [Heap.size_push, hz]) fun b o x => Heap.get?_push_of_some _ (Heap.get?_push_of_some _ x)⟩
end
end Sb
namespace Sb
open PySem PySem.Spec PyProof.Rows L2
/-- the tuple at a as it stands at each turn, each item in a new pair -/
def IteT (K : PySem.W.Frag) (a : Addr) : It :=
  ⟨fun i H => ∃ (xs : List V) (x : V), SqT K H a xs ∧ xs[i]? = some x, fun i H v H' => ∃ T x, v = .ref T ∧ H T = none ∧ H' = upd H T (.tup [.int (i : Nat), x]) ∧ ∀ xs, SqT K H a xs → xs[i]? = some x, fun i H => ∃ xs : List V, SqT K H a xs ∧ xs.length ≤ i⟩
theorem turn_enumT {P : Program} {w : World} {K : PySem.W.Frag} {elts : List Expr} {kk : Nat} {tpos : Pos} (a e it : Addr) :
    Turn P w K (.Tuple elts kk tpos) (IteT K a) [e, it] e (fun i h => (∃ old, IsEnum h e it ((i : Nat) : Int) old) ∧ h.IsTupleIter it a i ∧ e ≠ it ∧ e ≠ a ∧ a ≠ it) where
  mem := by simp
  obj := fun i h st b hb => by
    obtain ⟨⟨old, he⟩, ⟨o, ho, hc, hd⟩, _⟩ := st
    have e' : b = e ∨ b = it := by simpa using hb
    rcases e' with z | z
    · rw [z]; exact ⟨_, he, fun v q => nomatch q⟩
    · rw [z]; exact ⟨o, ho, fun v q => by rw [hd] at q; cases q⟩
  keep := fun i h h' st k => let ⟨⟨old, he⟩, hi, hne⟩ := st; ⟨⟨old, k e (by simp) _ he⟩, hi.at fun o q => k it (by simp) o q, hne⟩
  item := by
    intro X hP hw hK hc i pins s σ H E I hf st hg
    subst hP hw hK
    obtain ⟨⟨old, he⟩, hit, hne, hea, hai⟩ := st
    obtain ⟨xs, x, hq, hx⟩ := hg
    obtain ⟨its, rv, p, hz⟩ := I.tuple hq
    obtain ⟨u, hu, ru⟩ := rv.get hx
    have hel : e < s.heap.objs.size := Heap.lt_size he
    have hil : it < s.heap.objs.size := by obtain ⟨_, q, _⟩ := hit; exact Heap.lt_size q
    have p' : s.heap.IsTuple a its.toArray := p
    have hlt : i < its.toArray.size := by
      have := (List.getElem?_eq_some_iff.mp hu).1
      simpa using this
    have Dr := Draws.tuple (prog := X.prog) (w := X.w) (A := X.A.in1) (I.ok.hd hc) it a hai its.toArray
    refine wpAny_pyNext_enum_itemC Dr he ⟨hit, p'⟩ hlt hne (by simp [hne, hea]) fun x' h' tk hx' ho hst' hT hsz hk => ?_
    obtain ⟨hit', _⟩ := hst'
    have ex : x' = u := by
      have q : its.toArray[i]? = some u := by simpa using hu
      rw [q] at hx'
      exact (Option.some.inj hx').symm
    subst ex
    refine ⟨_, rfl, wpAny_letOwnedTupleGo_enum (s := { s with heap := h', toks := tk + 1 }) ho fun h'' he' sb => ?_⟩
    have hT2 : h''.get? s.heap.objs.size = some { cls := .type "tuple", data := .seq #[.int i tk, x'] } := (sb.2 _ (Nat.ne_of_gt hel)).trans hT
    have new : ObjOk X.prog X.w (upd H s.heap.objs.size (.tup [.int (i : Nat), x])) h'' s.heap.objs.size (.tup [.int (i : Nat), x]) :=
      ⟨by show 2 ≤ sizeLine; decide, [.int i tk, x'], .cons ⟨_, rfl⟩ (.cons ru .nil), ⟨_, hT2, rfl, _, rfl⟩⟩
    have I1 : Inv X pins σ (upd H s.heap.objs.size (.tup [.int (i : Nat), x])) { s with heap := h'', toks := tk + 1 } :=
      I.turnedNew (ch := [e, it]) (fun b ob hb q => (sb.2 b (fun z => hb (by simp [z]))).trans (hk b ob (fun z => hb (by simp [z])) (fun z => hb (by simp [z])) q)) hf (Nat.le_refl _) new
    refine ⟨.ref s.heap.objs.size, _, I1, rfl, ⟨_, x, rfl, I.hok.fresh (Nat.le_refl _), rfl, fun ys hy => by rw [I.tuple_inj hy hq]; exact hx⟩, ⟨⟨x', ?_⟩, hit'.at fun o q => (sb.2 it (Ne.symm hne)).trans q, hne, hea, hai⟩, fun b hb => ?_⟩
    · have e1 : ((i + 1 : Nat) : Int) = (i : Int) + 1 := by omega
      rw [e1]; exact he'
    · have hb' : b < s.heap.objs.size := by
        have e' : b = e ∨ b = it := by simpa using hb
        rcases e' with z | z
        · rw [z]; exact hel
        · rw [z]; exact hil
      rw [upd_ne (Nat.ne_of_lt hb')]
      exact (hf b hb).1
  done := by
    intro X hP hw hK hc i pins s σ H E I hf st hg
    subst hP hw hK
    obtain ⟨⟨old, he⟩, hit, hne, hea, hai⟩ := st
    obtain ⟨xs, hq, hx⟩ := hg
    obtain ⟨its, rv, p, hz⟩ := I.tuple hq
    obtain ⟨f0, f1, f2, f3, f4, f5⟩ := hf it (by simp)
    have hl := rv.length
    have p' : s.heap.IsTuple a its.toArray := p
    have hT : s.TypeIs (.ref e) "enumerate" := ⟨_, he, rfl⟩
    unfold pyNext
    refine wpAny_bind (wpAny_attempt (wpAny_callSpecial?_slot (name := Str.ofString "__next__") hT F.slot_enumerate_next
      (wpAny_call_entry F.slot_enumerate_next hT F.entry_enumerate_next ?_ (F.args_enumerate_next_1 _))))
    show wpAny _ _ (field (.ref e) 2 >>= _) _ _ _
    refine wpAny_bind (wpAny_field he rfl (x := .ref it) rfl ?_)
    refine wpAny_bind (PySem.wpAny_nextOf_tuple_end (A := X.A.in1) (I.ok.hd hc) hit p' (by simp; omega) fun h' x he' hx' => ?_)
    obtain ⟨o, ho, hc'⟩ := hx'
    refine wpAny_bind (wpAny_isInstance (T := "StopIteration") (b := true) ⟨o, ho, hc'⟩ isSubtype_stop ?_)
    exact wpAny_pure ⟨rfl, I.turned (t' := s.toks) (fun b o hb q => he' b o hb q) f0 f1 f3 f4 f5⟩
  self := fun A i s Q E st h => let ⟨⟨_, he⟩, _⟩ := st; wpAny_pyIter_enum he h
def iEnumT (K : PySem.W.Frag) (ta : TA) : TI := fun σ H R => ta σ H fun vs H1 => ∃ a xs, vs = [.ref a] ∧ SqT K H1 a xs ∧ R (IteT K a) H1
theorem pi_enumT {X : Cx} {e : Expr} {ta : TA} {p pos tpos : Pos} {elts : List Expr} {kk : Nat} (hg : Gl X "enumerate") (hm : X.mg "enumerate" = none) (ha : PA X [e] ta) (hs : starEach [e] X.env = [(false, eval e X.env)] := by rfl) :
    PI X (.Tuple elts kk tpos) (.Call (.Name "enumerate" p) [e] [] pos) (iEnumT X.K ta) := by
  refine ⟨fun pins s σ H R I h => ?_⟩
  refine Call_ (ld_blt I hg hm boot_enumerate (PyProof.Rows.callWith_type1 (thn (ha.run pos pins s σ H _ I h) fun us s1 ⟨vs, H1, I1, r1, q1⟩ => ?_) hs rfl))
  obtain ⟨a, xs, ex, hq, q⟩ := q1
  subst ex
  cases r1 with
  | cons r rr =>
    cases rr
    cases r
    obtain ⟨its, rv, p', hz⟩ := I1.tuple hq
    have p2 : s1.heap.IsTuple a its.toArray := p'
    have hal : a < s1.heap.objs.size := by obtain ⟨_, q', _⟩ := p2; exact Heap.lt_size q'
    refine call_enum_one (begins_tuple a its.toArray) p2 fun h' he hit hsz hk => wpAny_pyIter_enum he ?_
    have I2 : Inv X pins σ H1 { s1 with heap := h' } := I1.kept (t' := s1.toks) hk
    refine ⟨s1.heap.objs.size + 1, [s1.heap.objs.size + 1, s1.heap.objs.size], _, _, H1, rfl, I2, turn_enumT a (s1.heap.objs.size + 1) s1.heap.objs.size, ⟨⟨.none, he⟩, ⟨_, hit, rfl, rfl⟩, Nat.succ_ne_self _, Nat.ne_of_gt (Nat.lt_succ_of_lt hal), Nat.ne_of_lt hal⟩, fun b hb => ?_, q⟩
    have e' : b = s1.heap.objs.size + 1 ∨ b = s1.heap.objs.size := by simpa using hb
    have hle : s1.heap.objs.size ≤ b := by
      rcases e' with z | z
      · rw [z]; exact Nat.le_add_right _ _
      · rw [z]; exact Nat.le_refl _
    exact I1.fpOk hle (I1.hok.fresh hle)
theorem walk_enumT {K : PySem.W.Frag} {a : Addr} {xs : List V} : Walk (IteT K a) xs.length (fun H => SqT K H a xs) (YPair (fun i => some (.int (i : Nat))) (fun i => xs[i]?)) := by
  refine ⟨fun i _ hi q => ⟨xs, xs[i], q, by simp [hi]⟩, fun _ q => ⟨xs, q, Nat.le_refl _⟩, fun i H v H' _ q y => ?_⟩
  obtain ⟨T, x, h1, h2, h3, h4⟩ := y
  exact ⟨T, .int (i : Nat), x, h1, h2, h3, rfl, h4 xs q⟩
theorem walk_zipT {K : PySem.W.Frag} {a b : Addr} {xs ys : List V} : Walk (RZ.ItzT K a b) (min xs.length ys.length) (fun H => SqT K H a xs ∧ SqT K H b ys) (YPair (fun i => xs[i]?) (fun i => ys[i]?)) := by
  refine ⟨fun i _ hi q => ?_, fun _ q => ⟨xs, ys, q.1, q.2, by omega⟩, fun i H v H' _ q y => ?_⟩
  · have h1 : i < xs.length := by omega
    have h2 : i < ys.length := by omega
    exact ⟨xs, ys, xs[i], ys[i], q.1, q.2, by simp [h1], by simp [h2]⟩
  · obtain ⟨T, x, z, h1, h2, h3, h4, h5⟩ := y
    exact ⟨T, x, z, h1, h2, h3, h4 xs q.1, h5 ys q.2⟩
section
open PySem.AutoSeq1 (wpAny_loadPart')
theorem extend_tupM (l : Addr) (items : Array Value) (n : Nat) (b : Addr) (items2 : Array Value) (n2 : Nat) (dd : Option Addr) (sl : Array (Option Value)) (hs0 : ¬(!items.isEmpty && Builtin.List.listTooLong (items.size + items2.size)) = true) (hs1 : items.size ≤ sizeLine) (hs2 : items.size + items2.size ≤ sizeLine + 1) :
    Meets (Builtin.«list.extend» ⟨[.ref l, .ref b], []⟩) (fun _ R s => s.heap.get? l = some { cls := .type "list", dict := none, data := .seq items n, slots := #[] } ∧ s.heap.get? b = some { cls := .type "tuple", dict := dd, data := .seq items2 n2, slots := sl } ∧ R (.ok (.ret Value.none)) { s with heap := s.heap.update l (Obj.mapSeq fun x => x ++ items2), toks := s.toks }) :=
  .of_wp fun prog w A R s h => by
    obtain ⟨hp, g, d, tk, os⟩ := s; obtain ⟨hl, hb, h⟩ := h
    have f2 := AutoSeq1.sub_tuple_tuple; have f3 := AutoSeq1.sub_list_list; have f4 := AutoSeq1.sub_tuple_list; have f5 := AutoSeq1.sub_list_tuple
    have hz' : (items ++ items2).size ≤ sizeLine + 1 := by rw [Array.size_append]; exact hs2
    wp_walk using (wpAny_updateSeq hl rfl (hz := hs1) (_hz' := hz')), wpAny_loadPart' hl, wpAny_loadPart' hb
    exact ⟨_, rfl, h⟩
end
def rExtendT (K : PySem.W.Frag) : V → List V → Hp → VK → Prop := fun x vs H Q => ∃ l b xs zs, x = .ref l ∧ vs = [.ref b] ∧ H l = some (.lst xs) ∧ SqT K H b zs ∧ xs.length + zs.length ≤ sizeLine ∧ Q .non (upd H l (.lst (xs ++ zs)))
theorem mt_extendT {X : Cx} : MtR X "list.extend" (rExtendT X.K) := by
  intro pins s σ H x vs v us Q I rx rv h
  obtain ⟨l, b, xs, zs, rfl, rfl, hH, hB, hz, q⟩ := h
  cases rx
  obtain ⟨u, rfl, ru⟩ := rv.one
  cases ru
  obtain ⟨z, its, n, r, hl, e⟩ := I.lstM hH
  obtain ⟨its2, r2, ⟨⟨cls, dd, data, sl⟩, e2, hc, n2, hd⟩, hz2⟩ := I.tuple hB
  have hc' : cls = .type "tuple" := hc
  have hd' : data = .seq its2.toArray n2 := hd
  subst hc' hd'
  have hl2 := r2.length
  have hsz : its.toArray.size + its2.toArray.size ≤ sizeLine := by rw [List.size_toArray, List.size_toArray]; omega
  have hlong : ¬ (!its.toArray.isEmpty && Builtin.List.listTooLong (its.toArray.size + its2.toArray.size)) = true := by
    rw [notLongL hsz, Bool.and_false]
    exact Bool.false_ne_true
  refine call_meets F.slot_list_extend ⟨_, e, rfl⟩ F.entry_list_extend (F.args_list_extend_2 _ _)
    (extend_tupM l its.toArray n b its2.toArray n2 dd sl hlong (by rw [List.size_toArray]; omega) (by omega)) ⟨e, e2, ?_⟩
  refine ⟨.non, _, I.lset (its' := its ++ its2) hH e (by simp) (r.append r2) ?_, rfl, q⟩
  rw [List.length_append]
  omega
end Sb
end
section
set_option Elab.async false
set_option linter.all false
set_option maxRecDepth 100000
set_option maxHeartbeats 4000000
namespace Sb
open PySem PySem.Spec PyProof.Rows L2
variable {K : PySem.W.Frag}

/-! ### argument lists, displays -/
def fNil : Sl → Option (List D) := fun _ => some []
def fCons (fa : Sl → Option D) (fr : Sl → Option (List D)) : Sl → Option (List D) := fun sl => (fa sl).bind fun x => (fr sl).bind fun xs => some (x :: xs)
def fTup (f : Sl → Option (List D)) : Sl → Option D := fun sl => (f sl).bind fun ds => if ds.length ≤ 1000 then some (.tup ds) else none
def fLst (f : Sl → Option (List D)) : Sl → Option D := fun sl => (f sl).bind fun ds => if ds.length ≤ 1000 then some (.lst ds) else none
section
variable {X : Cx} {e : Expr} {es : List Expr} {te : TE} {t : TA} {fa : Sl → Option D} {fr : Sl → Option (List D)} {pos : Pos}
theorem da_nil (kk : X.K = K) : DA X K [] tNil fNil := ⟨pa_nil, kk, fun sl ds hf O σ H Q dm st q => by
  unfold fNil at hf
  cases hf
  exact q [] H (Same.refl H) .nil⟩
theorem ev_cons (ha : Ev K te fa) (hr : EvA K t fr) : EvA K (tCons te t) (fCons fa fr) := by
  intro sl ds hf O σ H Q dm st q
  unfold fCons at hf
  cases c1 : fa sl with
  | none => rw [c1] at hf; cases hf
  | some x =>
    cases c2 : fr sl with
    | none => rw [c1, c2] at hf; cases hf
    | some xs =>
      rw [c1, c2] at hf
      cases hf
      refine ha sl x c1 O σ H _ dm st fun v H1 s1 r1 => hr sl xs c2 O σ H1 _ (dm.mono s1) (st.mono (vis_same s1)) fun vs H2 s2 r2 => ?_
      exact q (v :: vs) H2 (s1.trans s2) (.cons (r1.mono (vis_same s2)) r2)
theorem da_cons (ha : DE X K e te fa) (hr : DA X K es t fr) (hs : starEach (e :: es) X.env = (false, eval e X.env) :: starEach es X.env := by rfl) : DA X K (e :: es) (tCons te t) (fCons fa fr) := ⟨pa_cons ha.pe hr.pa hs, ha.kk, ev_cons ha.ev hr.ev⟩
theorem small_line {n : Nat} (h : n ≤ 1000) : n ≤ sizeLine := by rw [line_is]; unfold line; omega
theorem ev_tup (h : EvA K t fr) : Ev K (tTup t) (fTup fr) := by
  intro sl d hf O σ H Q dm st q
  unfold fTup at hf
  cases c : fr sl with
  | none => rw [c] at hf; cases hf
  | some ds =>
    rw [c] at hf
    simp only [Option.bind_some] at hf
    split at hf
    · rename_i hl
      cases hf
      refine h sl ds c O σ H _ dm st fun vs H1 s1 r => ⟨by rw [r.length]; exact small_line hl, fun p hp => ?_⟩
      have sp := same_upd (o := .tup vs) hp
      exact q _ _ (s1.trans sp) (.tup (SqT.of (vis_new (dm.mono s1) hp)) (r.mono (vis_same sp)))
    · cases hf
theorem ev_lst (h : EvA K t fr) : Ev K (tLst t) (fLst fr) := by
  intro sl d hf O σ H Q dm st q
  unfold fLst at hf
  cases c : fr sl with
  | none => rw [c] at hf; cases hf
  | some ds =>
    rw [c] at hf
    simp only [Option.bind_some] at hf
    split at hf
    · rename_i hl
      cases hf
      refine h sl ds c O σ H _ dm st fun vs H1 s1 r => ⟨by rw [r.length]; exact small_line hl, fun p hp => ?_⟩
      have sp := same_upd (o := .lst vs) hp
      exact q _ _ (s1.trans sp) (.lst (vis_new (dm.mono s1) hp) (r.mono (vis_same sp)))
    · cases hf
theorem de_tup {x1 : Nat} (h : DA X K es t fr) : DE X K (.Tuple es x1 pos) (tTup t) (fTup fr) := ⟨pe_tup h.pa, h.kk, ev_tup h.ev⟩
theorem de_lst (h : DA X K es t fr) : DE X K (.List es pos) (tLst t) (fLst fr) := ⟨pe_lst h.pa, h.kk, ev_lst h.ev⟩
end

/-! ### slices -/
def cutG {α : Type} (xs : List α) (lo hi : Option Int) : List α := (xs.drop (HT.sIx xs.length 0 lo)).take (HT.sIx xs.length xs.length hi - HT.sIx xs.length 0 lo)
theorem cutG_whole {α : Type} {xs : List α} {lo hi : Option Int} (h : HT.sIx xs.length 0 lo = 0 ∧ HT.sIx xs.length xs.length hi = xs.length) : cutG xs lo hi = xs := by
  unfold cutG
  rw [h.1, h.2]
  simp
theorem cutG_map {α β : Type} (f : α → β) (xs : List α) (lo hi : Option Int) : cutG (xs.map f) lo hi = (cutG xs lo hi).map f := by
  unfold cutG
  rw [List.length_map, List.map_take, List.map_drop]
theorem rep_cut {H : Hp} {xs : List V} {ds : List D} (r : RepL K H xs ds) (lo hi : Option Int) : RepL K H (cutV xs lo hi) (cutG ds lo hi) := by
  unfold cutV cutG
  rw [r.length]
  exact (r.drop _).take _
def gSl : D → Option Int → Option Int → Option D
  | .tup ds, lo, hi => some (.tup (cutG ds lo hi))
  | .lst ds, lo, hi => some (.lst (cutG ds lo hi))
  | .inp ns, lo, hi => some (.lst ((cutG ns lo hi).map D.int))
  | _, _, _ => none
def rSl (K : PySem.W.Frag) : V → Option Int → Option Int → Hp → VK → Prop := fun x lo hi H Q => rSlL K x lo hi H Q ∨ rSlA K x lo hi H Q
theorem snd_sl {O : Hid} {H : Hp} {Q : VK} {v : V} {d z : D} {lo hi : Option Int} (h : gSl d lo hi = some z) (dm : Dom O H) (r : Rep K (vis O H) v d) (q : ∀ v H', Same H H' → Rep K (vis O H') v z → Q v H') : rSl K v lo hi H Q := by
  cases r with
  | tup h1 r1 =>
    cases h
    refine .inr ⟨_, _, rfl, seqT vis_sub h1, fun w => ?_, fun _ p hp => ?_⟩
    · rw [r1.length] at w
      rw [cutG_whole w] at q
      exact q _ H (Same.refl H) (.tup h1 r1)
    · exact q _ _ (same_upd hp) (.tup (SqT.of (vis_new dm hp)) ((rep_cut r1 lo hi).mono (vis_same (same_upd hp))))
  | lst h1 r1 =>
    cases h
    refine .inl ⟨_, _, rfl, SqL.of (vis_sub _ _ h1), fun p hp => ?_⟩
    exact q _ _ (same_upd hp) (.lst (vis_new dm hp) ((rep_cut r1 lo hi).mono (vis_same (same_upd hp))))
  | inp h1 =>
    rename_i a ns
    cases h
    refine .inl ⟨_, _, rfl, vis_sub.seq h1, fun p hp => ?_⟩
    refine q _ _ (same_upd hp) (.lst (vis_new dm hp) ?_)
    have e : cutV (ns.map V.int) lo hi = (cutG ns lo hi).map V.int := cutG_map V.int ns lo hi
    rw [e]
    exact RepL.ints _
  | _ => cases h
def EvP (K : PySem.W.Frag) (t : TO) (f : Sl → Option (Option Int)) : Prop := ∀ sl o, f sl = some o → ∀ (O : Hid) (σ : L2.St) (H : Hp) (Q : Option Int → Hp → Prop), Dom O H → Slots K (vis O H) sl σ → (∀ H', Same H H' → Q o H') → t σ H Q
structure DP (X : Cx) (K : PySem.W.Frag) (e : Option Expr) (t : TO) (f : Sl → Option (Option Int)) : Prop where
  po : PO X e t
  ev : EvP K t f
def pNone : Sl → Option (Option Int) := fun _ => some none
def pSome (fa : Sl → Option D) : Sl → Option (Option Int) := fun sl => (fa sl).bind fun d => match d with
  | .int i => some (some i)
  | _ => none
def fSl (fa : Sl → Option D) (fl fh : Sl → Option (Option Int)) : Sl → Option D := fun sl => (fa sl).bind fun x => (fl sl).bind fun l => (fh sl).bind fun h => gSl x l h
section
variable {X : Cx} {e : Expr} {te : TE} {fa : Sl → Option D} {lo hi : Option Expr} {tl th : TO} {fl fh : Sl → Option (Option Int)} {pos p2 : Pos}
theorem dp_none : DP X K none tNoPart pNone := ⟨po_none, fun sl o hf O σ H Q dm st q => by cases hf; exact q H (Same.refl H)⟩
theorem dp_some (h : DE X K e te fa) : DP X K (some e) (tPart te) (pSome fa) := by
  refine ⟨po_some h.pe, fun sl o hf O σ H Q dm st q => ?_⟩
  unfold pSome at hf
  cases c : fa sl with
  | none => rw [c] at hf; cases hf
  | some d =>
    rw [c] at hf
    refine h.ev sl d c O σ H _ dm st fun v H1 s1 r => ?_
    cases r with
    | int i => cases hf; exact ⟨i, rfl, q H1 s1⟩
    | _ => cases hf
theorem de_slice (h : DE X K e te fa) (hl : DP X K lo tl fl) (hh : DP X K hi th fh) : DE X K (.Subscript e (.Slice lo hi none p2) pos) (tSl (rSl K) te tl th) (fSl fa fl fh) := by
  refine ⟨?_, h.kk, fun sl d hf O σ H Q dm st q => ?_⟩
  · have k := h.kk
    subst k
    exact pe_slice (sl_list.or sl_tupA) h.pe hl.po hh.po
  · unfold fSl at hf
    cases c1 : fa sl with
    | none => rw [c1] at hf; cases hf
    | some x =>
      cases c2 : fl sl with
      | none => rw [c1, c2] at hf; cases hf
      | some l =>
        cases c3 : fh sl with
        | none => rw [c1, c2, c3] at hf; cases hf
        | some u =>
          rw [c1, c2, c3] at hf
          refine h.ev sl x c1 O σ H _ dm st fun v H1 s1 r => hl.ev sl l c2 O σ H1 _ (dm.mono s1) (st.mono (vis_same s1)) fun H2 s2 => ?_
          have s12 := s1.trans s2
          refine hh.ev sl u c3 O σ H2 _ (dm.mono s12) (st.mono (vis_same s12)) fun H3 s3 => ?_
          have s123 := s12.trans s3
          exact snd_sl hf (dm.mono s123) ((r.mono (vis_same s2)).mono (vis_same s3)) fun v' H' s4 r' => q v' H' (s123.trans s4) r'
end

/-! ### calls -/
/-- a def's promise: called with data ds it hands back F ds; what stood stands -/
def spD (K : PySem.W.Frag) (n : Nat) (F : List D → Option D) : Sp := fun vs H Q _ => ∃ (O : Hid) (ds : List D) (d : D), ds.length = n ∧ Dom O H ∧ RepL K (vis O H) vs ds ∧ F ds = some d ∧ ∀ v H', Same H H' → Rep K (vis O H') v d → Q v H'
/-- a def stands at the top and keeps its promise, by k rooms -/
structure Ok (P : Program) (w : World) (K : PySem.W.Frag) (mg : Str → Option Value) (base : Heap) (x : Str) (k n : Nat) (F : List D → Option D) : Prop where
  ex : ∃ (f : Addr) (fd : FuncData) (ps : List Str), mg x = some (.ref f) ∧ PySem.W.keepIn K (.ref f) = true ∧ Binds K fd ps [] ∧ FnOk P w K mg base CX0 k f fd ps (spD K n F)
def fCall (n : Nat) (F : List D → Option D) (f : Sl → Option (List D)) : Sl → Option D := fun sl => (f sl).bind fun ds => if ds.length = n then F ds else none
section
variable {X : Cx} {e : Expr} {es : List Expr} {t : TA} {f : Sl → Option (List D)} {pos p : Pos} {x : Str} {k k' n : Nat} {F : List D → Option D}
theorem de_call (o : Ok X.prog X.w X.K X.mg X.base x k n F) (hr : Room k' X.A) (hk : k ≤ k') (hg : Gl X x) (ha : DA X K (e :: es) t f) (hdb : (x == ("__debug__" : Str)) = false := by decide)
    (he : starEach (e :: es) X.env = (false, eval e X.env) :: starEach es X.env := by rfl) (hpl : (backTo pos (starEach es X.env)).any (·.1) = false := by rfl) : DE X K (.Call (.Name x p) (e :: es) [] pos) (tCall (spD K n F) [] E0 t) (fCall n F f) := by
  have kk := ha.kk
  refine ⟨?_, kk, fun sl d hf O σ H Q dm st q => ?_⟩
  · subst kk
    obtain ⟨f, fd, ps, hm, kp, hb, G⟩ := o.ex
    exact pe_call G (hr.mono hk) hg hm kp hb .nil pass0 ha.pa hdb he hpl
  · unfold fCall at hf
    cases c : f sl with
    | none => rw [c] at hf; cases hf
    | some ds =>
      rw [c] at hf
      simp only [Option.bind_some] at hf
      split at hf
      · rename_i hn
        refine ha.ev sl ds c O σ H _ dm st fun vs H1 s1 r => ?_
        rw [List.append_nil]
        exact ⟨O, ds, d, hn, dm.mono s1, r, hf, fun v H' s2 r2 => q v H' (s1.trans s2) r2⟩
      · cases hf
end
/-- a built-in's call -/
def SndC (K : PySem.W.Frag) (r : List V → Hp → VK → Prop) (g : List D → Option D) : Prop := ∀ (xs : List V) (as : List D) (d : D), g as = some d → ∀ (O : Hid) (H : Hp) (Q : VK), Dom O H → RepL K (vis O H) xs as → (∀ v H', Same H H' → Rep K (vis O H') v d → Q v H') → r xs H Q
def fB (g : List D → Option D) (f : Sl → Option (List D)) : Sl → Option D := fun sl => (f sl).bind g
theorem ev_cb {r : List V → Hp → VK → Prop} {g : List D → Option D} {t : TA} {f : Sl → Option (List D)} (s : SndC K r g) (h : EvA K t f) : Ev K (tCB r t) (fB g f) := by
  intro sl d hf O σ H Q dm st q
  unfold fB at hf
  cases c : f sl with
  | none => rw [c] at hf; cases hf
  | some ds =>
    rw [c] at hf
    exact h sl ds c O σ H _ dm st fun vs H1 s1 rr => s vs ds d hf O H1 Q (dm.mono s1) rr fun v H' s2 r2 => q v H' (s1.trans s2) r2
def gLen : List D → Option D
  | [.tup ds] => some (.int ds.length)
  | [.lst ds] => some (.int ds.length)
  | [.inp ns] => some (.int ns.length)
  | _ => none
def bools : List D → Option (List Bool)
  | [] => some []
  | .bl b :: ds => (bools ds).map fun bs => b :: bs
  | _ :: _ => none
def gAll : List D → Option D
  | [.lst ds] => (bools ds).map fun bs => .bl (bs.all id)
  | _ => none
def gTuple : List D → Option D
  | [.lst ds] => some (.tup ds)
  | _ => none
theorem snd_len : SndC K (fun xs H Q => ∃ p ys, xs = [.ref p] ∧ (SqL K H p ys ∨ SqT K H p ys) ∧ Q (.int ys.length) H) gLen := by
  intro xs as d h O H Q dm r q
  cases r with
  | nil => cases h
  | cons r1 r2 =>
    cases r2 with
    | cons _ _ => cases r1 <;> cases h
    | nil =>
      cases r1 with
      | tup h1 r1 =>
        cases h
        refine ⟨_, _, rfl, .inr (seqT vis_sub h1), ?_⟩
        rw [r1.length]
        exact q _ H (Same.refl H) (.int _)
      | lst h1 r1 =>
        cases h
        refine ⟨_, _, rfl, .inl (SqL.of (vis_sub _ _ h1)), ?_⟩
        rw [r1.length]
        exact q _ H (Same.refl H) (.int _)
      | inp h1 =>
        cases h
        refine ⟨_, _, rfl, .inl (vis_sub.seq h1), ?_⟩
        rw [List.length_map]
        exact q _ H (Same.refl H) (.int _)
      | _ => cases h
theorem bools_rep {H : Hp} : ∀ {ds : List D} {xs : List V} {bs : List Bool}, bools ds = some bs → RepL K H xs ds → xs = bs.map V.bl
  | [], _, _, h, r => by cases h; cases r; rfl
  | .bl b :: ds, _, bs, h, r => by
    cases r with
    | cons r1 r2 =>
      cases r1
      unfold bools at h
      cases c : bools ds with
      | none => rw [c] at h; cases h
      | some cs =>
        rw [c] at h
        cases h
        rw [bools_rep c r2]
        rfl
  | .non :: _, _, _, h, _ => by cases h
  | .int _ :: _, _, _, h, _ => by cases h
  | .tup _ :: _, _, _, h, _ => by cases h
  | .lst _ :: _, _, _, h, _ => by cases h
  | .inp _ :: _, _, _, h, _ => by cases h
theorem snd_all : SndC K (rAll K) gAll := by
  intro xs as d h O H Q dm r q
  cases r with
  | nil => cases h
  | cons r1 r2 =>
    cases r2 with
    | cons _ _ => cases r1 <;> cases h
    | nil =>
      cases r1 with
      | lst h1 r1 =>
        rename_i a ys ds
        have h' : (bools ds).map (fun bs => D.bl (bs.all id)) = some d := h
        cases c : bools ds with
        | none => rw [c] at h'; cases h'
        | some bs =>
          rw [c] at h'
          cases h'
          refine ⟨_, bs, rfl, ?_, q _ H (Same.refl H) (.bl _)⟩
          rw [← bools_rep c r1]
          exact SqL.of (vis_sub _ _ h1)
      | _ => cases h
theorem snd_tuple : SndC K (fun xs H Q => ∃ p ys, xs = [.ref p] ∧ ((SqL K H p ys ∧ ∀ l, H l = none → Q (.ref l) (upd H l (.tup ys))) ∨ (SqT K H p ys ∧ Q (.ref p) H))) gTuple := by
  intro xs as d h O H Q dm r q
  cases r with
  | nil => cases h
  | cons r1 r2 =>
    cases r2 with
    | cons _ _ => cases r1 <;> cases h
    | nil =>
      cases r1 with
      | lst h1 r1 =>
        cases h
        refine ⟨_, _, rfl, .inl ⟨SqL.of (vis_sub _ _ h1), fun l hl => ?_⟩⟩
        exact q _ _ (same_upd hl) (.tup (SqT.of (vis_new dm hl)) (r1.mono (vis_same (same_upd hl))))
      | _ => cases h
section
variable {X : Cx} {e : Expr} {es : List Expr} {t : TA} {f : Sl → Option (List D)} {pos p : Pos}
theorem de_len (hg : Gl X "len") (hm : X.mg "len" = none) (ha : DA X K (e :: es) t f) (he : starEach (e :: es) X.env = (false, eval e X.env) :: starEach es X.env := by rfl) (hpl : (backTo pos (starEach es X.env)).any (·.1) = false := by rfl) :
    DE X K (.Call (.Name "len" p) (e :: es) [] pos) (tCB (fun xs H Q => ∃ p ys, xs = [.ref p] ∧ (SqL K H p ys ∨ SqT K H p ys) ∧ Q (.int ys.length) H) t) (fB gLen f) := by
  refine ⟨?_, ha.kk, ev_cb snd_len ha.ev⟩
  have k := ha.kk
  subst k
  exact pe_callB call_len_seq hg hm PySem.boot_len ha.pa (by decide) (by decide) he hpl
theorem de_all (hg : Gl X "all") (hm : X.mg "all" = none) (hc : X.calm = true) (ha : DA X K (e :: es) t f) (he : starEach (e :: es) X.env = (false, eval e X.env) :: starEach es X.env := by rfl) (hpl : (backTo pos (starEach es X.env)).any (·.1) = false := by rfl) :
    DE X K (.Call (.Name "all" p) (e :: es) [] pos) (tCB (rAll K) t) (fB gAll f) := by
  refine ⟨?_, ha.kk, ev_cb snd_all ha.ev⟩
  have k := ha.kk
  subst k
  exact pe_callB (cr_all hc) hg hm (by decide +kernel) ha.pa (by decide) (by decide) he hpl
theorem de_tuple (hg : Gl X "tuple") (hm : X.mg "tuple" = none) (ha : DA X K (e :: es) t f) (he : starEach (e :: es) X.env = (false, eval e X.env) :: starEach es X.env := by rfl) (hpl : (backTo pos (starEach es X.env)).any (·.1) = false := by rfl) :
    DE X K (.Call (.Name "tuple" p) (e :: es) [] pos) (tCB (fun xs H Q => ∃ p ys, xs = [.ref p] ∧ ((SqL K H p ys ∧ ∀ l, H l = none → Q (.ref l) (upd H l (.tup ys))) ∨ (SqT K H p ys ∧ Q (.ref p) H))) t) (fB gTuple f) := by
  refine ⟨?_, ha.kk, ev_cb snd_tuple ha.ev⟩
  have k := ha.kk
  subst k
  exact pe_callTy call_tuple_of hg hm (by decide +kernel) ha.pa (by decide) (by decide) he hpl
end
end Sb
end
section
set_option Elab.async false
set_option linter.all false
set_option maxRecDepth 100000
set_option maxHeartbeats 4000000
namespace Sb
open PySem PySem.Spec PyProof.Rows L2
variable {K : PySem.W.Frag}

/-! ### targets: names by their slots, or a tuple of names -/
def setL : List Nat → List D → Sl → Sl
  | i :: is, d :: ds, sl => setL is ds (sl.set i (some d))
  | _, _, sl => sl
def tgN (i : Nat) : D → Sl → Option Sl := fun d sl => some (sl.set i (some d))
def tgT (is : List Nat) : D → Sl → Option Sl := fun d sl => match d with
  | .tup ds => if ds.length = is.length then some (setL is ds sl) else none
  | _ => none
/-- slots other than those at is are as they were -/
def Off (is : List Nat) (σ σ' : L2.St) : Prop := σ'.length = σ.length ∧ ∀ i, i ∉ is → σ'[i]? = σ[i]?
def EvG (K : PySem.W.Frag) (g : TG) (is : List Nat) (fg : D → Sl → Option Sl) : Prop := ∀ d sl sl', fg d sl = some sl' → ∀ (O : Hid) (v : V) (σ : L2.St) (H : Hp) (Q : L2.St → Hp → Prop), Rep K (vis O H) v d → Slots K (vis O H) sl σ →
  (∀ σ', Off is σ σ' → Slots K (vis O H) sl' σ' → Q σ' H) → g v σ H Q
structure DG (X : Cx) (K : PySem.W.Frag) (tg : Expr) (g : TG) (is : List Nat) (fg : D → Sl → Option Sl) : Prop where
  pg : PG X tg g
  ev : EvG K g is fg
  keeps : ∀ d sl sl', fg d sl = some sl' → ∀ i, i ∉ is → sl'[i]? = sl[i]?
structure DGs (X : Cx) (K : PySem.W.Frag) (ts : List Expr) (t : TGs) (is : List Nat) : Prop where
  pg : PGs X ts t
  ev : ∀ (ds : List D) (sl : Sl), ds.length = is.length → ∀ (O : Hid) (vs : List V) (σ : L2.St) (H : Hp) (Q : L2.St → Hp → Prop), RepL K (vis O H) vs ds → Slots K (vis O H) sl σ →
    (∀ σ', Off is σ σ' → Slots K (vis O H) (setL is ds sl) σ' → Q σ' H) → t vs σ H Q
theorem setL_keeps : ∀ (is : List Nat) (ds : List D) (sl : Sl) (i : Nat), i ∉ is → (setL is ds sl)[i]? = sl[i]?
  | [], ds, sl, i, _ => by cases ds <;> rfl
  | j :: is, [], sl, i, _ => rfl
  | j :: is, d :: ds, sl, i, h => by
    show (setL is ds (sl.set j (some d)))[i]? = sl[i]?
    rw [setL_keeps is ds _ i (fun z => h (List.mem_cons_of_mem _ z)), List.getElem?_set_ne (fun e => h (by rw [e]; exact List.mem_cons_self))]
theorem Off.set {σ : L2.St} {i : Nat} {o : Option V} : Off [i] σ (σ.set i o) := ⟨List.length_set, fun j h => by
  rw [List.getElem?_set_ne]
  intro e
  exact h (by rw [e]; exact List.mem_cons_self)⟩
section
variable {X : Cx} {pos : Pos}
theorem dg_name {i : Nat} {x : Str} (h : PG X (.Name x pos) (gName i)) : DG X K (.Name x pos) (gName i) [i] (tgN i) := by
  refine ⟨h, fun d sl sl' hf O v σ H Q r s q => ?_, fun d sl sl' hf j hj => ?_⟩
  · cases hf
    exact q _ Off.set (s.set r)
  · cases hf
    rw [List.getElem?_set_ne]
    intro e
    exact hj (by rw [e]; exact List.mem_cons_self)
theorem dgs_nil : DGs X K [] gNil [] := by
  refine ⟨pgs_nil, fun ds sl hl O vs σ H Q r s q => ?_⟩
  cases ds with
  | cons _ _ => cases hl
  | nil =>
    cases r
    exact ⟨rfl, q σ ⟨rfl, fun _ _ => rfl⟩ s⟩
theorem dgs_cons {i : Nat} {is : List Nat} {x : Str} {es : List Expr} {u : TGs} (h1 : PG X (.Name x pos) (gName i)) (h2 : DGs X K es u is)
    (hs : (assignEach (.Name x pos :: es) X.env).map (·.2) = assign (.Name x pos) X.env :: (assignEach es X.env).map (·.2) := by rfl) : DGs X K (.Name x pos :: es) (gCons (gName i) u) (i :: is) := by
  refine ⟨pgs_cons h1 h2.pg hs, fun ds sl hl O vs σ H Q r s q => ?_⟩
  cases r with
  | nil => cases hl
  | cons r1 r2 =>
    refine ⟨_, _, rfl, ?_⟩
    refine h2.ev _ _ (Nat.succ.inj hl) O _ _ H _ r2 (s.set r1) fun σ' off s' => q σ' ⟨?_, fun j hj => ?_⟩ s'
    · rw [off.1, List.length_set]
    · rw [off.2 j (fun z => hj (List.mem_cons_of_mem _ z)), List.getElem?_set_ne]
      intro e
      exact hj (by rw [e]; exact List.mem_cons_self)
theorem dg_tup {es : List Expr} {k : Nat} {t : TGs} {is : List Nat} (hc : X.calm = true) (kk : X.K = K) (h : DGs X K es t is) (hn : (assignEach es X.env).length = is.length := by rfl) (hst : (assignEach es X.env).findIdx? (·.1) = none := by rfl) :
    DG X K (.Tuple es k pos) (gTup K is.length t) is (tgT is) := by
  refine ⟨?_, fun d sl sl' hf O v σ H Q r s q => ?_, fun d sl sl' hf j hj => ?_⟩
  · subst kk
    exact pg_tup hc h.pg hn hst
  · cases r with
    | tup h1 r1 =>
      unfold tgT at hf
      simp only at hf
      split at hf
      · rename_i hl
        cases hf
        exact ⟨_, _, rfl, seqT vis_sub h1, by rw [r1.length, hl], h.ev _ _ hl O _ _ H _ r1 s q⟩
      · cases hf
    | _ => cases hf
  · cases d with
    | tup ds =>
      unfold tgT at hf
      simp only at hf
      split at hf
      · cases hf; exact setL_keeps _ _ _ _ hj
      · cases hf
    | _ => cases hf
end

/-! ### what is walked -/
/-- the walk gives the items, one after another, while what is seen in F stands -/
def Wk (K : PySem.W.Frag) (F : Hp) (J : It) (items : List D) : Prop := ∃ (G : Hp → Prop) (Y : Nat → Hp → V → Hp → Prop), Walk J items.length G Y ∧ (∀ H, Same F H → G H) ∧
  ∀ i H x H' (O : Hid), i < items.length → Dom O H → Same F (vis O H) → Y i H x H' → Same H H' ∧ ∃ d, items[i]? = some d ∧ Rep K (vis O H') x d
def EvI (K : PySem.W.Frag) (wi : TI) (f : Sl → Option (List D)) : Prop := ∀ sl items, f sl = some items → ∀ (O : Hid) (σ : L2.St) (H : Hp) (R : It → Hp → Prop), Dom O H → Slots K (vis O H) sl σ → (∀ J H1, Same H H1 → Wk K (vis O H1) J items → R J H1) → wi σ H R
structure DI (X : Cx) (K : PySem.W.Frag) (tg iter : Expr) (wi : TI) (f : Sl → Option (List D)) : Prop where
  pi : PI X tg iter wi
  ev : EvI K wi f
def iLst (fa : Sl → Option D) : Sl → Option (List D) := fun sl => (fa sl).bind fun d => match d with
  | .lst ds => some ds
  | _ => none
def iTp (fa : Sl → Option D) : Sl → Option (List D) := fun sl => (fa sl).bind fun d => match d with
  | .tup ds => some ds
  | _ => none
def iR1 (f : Sl → Option (List D)) : Sl → Option (List D) := fun sl => (f sl).bind fun ds => match ds with
  | [.int j] => if 0 ≤ j ∧ j < 1000 then some ((List.range j.toNat).map fun i => .int (i : Nat)) else none
  | _ => none
def iR3 (f : Sl → Option (List D)) : Sl → Option (List D) := fun sl => (f sl).bind fun ds => match ds with
  | [.int 0, .int j, .int 4] => if 0 ≤ j ∧ j < 1000 then some ((List.range ((j + 3) / 4).toNat).map fun i => .int ((i : Nat) * 4)) else none
  | _ => none
def numbered : Nat → List D → List D
  | _, [] => []
  | i, d :: ds => .tup [.int (i : Nat), d] :: numbered (i + 1) ds
def iEn (f : Sl → Option (List D)) : Sl → Option (List D) := fun sl => (f sl).bind fun ds => match ds with
  | [.tup xs] => some (numbered 0 xs)
  | _ => none
def paired : List D → List D → List D
  | x :: xs, y :: ys => .tup [x, y] :: paired xs ys
  | _, _ => []
def iZp (f : Sl → Option (List D)) : Sl → Option (List D) := fun sl => (f sl).bind fun ds => match ds with
  | [.tup xs, .tup ys] => some (paired xs ys)
  | _ => none
theorem numbered_length : ∀ (ds : List D) (i : Nat), (numbered i ds).length = ds.length
  | [], _ => rfl
  | _ :: ds, i => congrArg Nat.succ (numbered_length ds (i + 1))
theorem numbered_get : ∀ (ds : List D) (k i : Nat) (d : D), ds[i]? = some d → (numbered k ds)[i]? = some (.tup [.int ((k + i : Nat)), d])
  | [], _, i, _, h => by simp at h
  | x :: ds, k, 0, d, h => by
    have e : x = d := by simpa using h
    subst e
    rfl
  | x :: ds, k, i + 1, d, h => by
    have q := numbered_get ds (k + 1) i d (by simpa using h)
    show (numbered (k + 1) ds)[i]? = _
    rw [q, show k + 1 + i = k + (i + 1) by omega]
theorem paired_length : ∀ (xs ys : List D), (paired xs ys).length = min xs.length ys.length
  | [], _ => by simp [paired]
  | _ :: _, [] => by simp [paired]
  | _ :: xs, _ :: ys => by simp [paired, paired_length xs ys]
theorem paired_get : ∀ (xs ys : List D) (i : Nat) (a b : D), xs[i]? = some a → ys[i]? = some b → (paired xs ys)[i]? = some (.tup [a, b])
  | [], _, i, _, _, h, _ => by simp at h
  | _ :: _, [], i, _, _, _, h => by simp at h
  | x :: xs, y :: ys, 0, a, b, h1, h2 => by
    have e1 : x = a := by simpa using h1
    have e2 : y = b := by simpa using h2
    subst e1 e2
    rfl
  | x :: xs, y :: ys, i + 1, a, b, h1, h2 => paired_get xs ys i a b (by simpa using h1) (by simpa using h2)
theorem wk_list {F : Hp} {a : Addr} {xs : List V} {ds : List D} (h : F a = some (.lst xs)) (r : RepL K F xs ds) : Wk K F (Itl K a) ds := by
  refine ⟨fun H => SqL K H a xs, YAt xs, by rw [← r.length]; exact walk_list, fun H s => SqL.of (s _ _ h), fun i H x H' O hi dm s y => ?_⟩
  obtain ⟨rfl, hx⟩ := y
  obtain ⟨d, e, q⟩ := r.get' hx
  exact ⟨Same.refl _, d, e, q.mono s⟩
theorem wk_tup {F : Hp} {a : Addr} {xs : List V} {ds : List D} (h : SqT K F a xs) (r : RepL K F xs ds) : Wk K F (Itt K a) ds := by
  refine ⟨fun H => SqT K H a xs, YAt xs, by rw [← r.length]; exact walk_tup, fun H s => seqT s h, fun i H x H' O hi dm s y => ?_⟩
  obtain ⟨rfl, hx⟩ := y
  obtain ⟨d, e, q⟩ := r.get' hx
  exact ⟨Same.refl _, d, e, q.mono s⟩
theorem new_pair {H H' : Hp} {O : Hid} {F : Hp} {T : Addr} {x y : V} {a b : D} (dm : Dom O H) (s : Same F (vis O H)) (hT : H T = none) (e : H' = upd H T (.tup [x, y])) (ra : Rep K F x a) (rb : Rep K F y b) : Same H H' ∧ Rep K (vis O H') (.ref T) (.tup [a, b]) := by
  subst e
  have sp := same_upd (o := .tup [x, y]) hT
  exact ⟨sp, .tup (SqT.of (vis_new dm hT)) (.cons ((ra.mono s).mono (vis_same sp)) (.cons ((rb.mono s).mono (vis_same sp)) .nil))⟩
theorem wk_enum {F : Hp} {a : Addr} {xs : List V} {ds : List D} (h : SqT K F a xs) (r : RepL K F xs ds) : Wk K F (IteT K a) (numbered 0 ds) := by
  refine ⟨fun H => SqT K H a xs, YPair (fun i => some (.int (i : Nat))) (fun i => xs[i]?), by rw [numbered_length, ← r.length]; exact walk_enumT, fun H s => seqT s h, fun i H x H' O hi dm s y => ?_⟩
  obtain ⟨T, u, v, rfl, hT, e, e1, e2⟩ := y
  cases (Option.some.inj e1)
  obtain ⟨d, ed, q⟩ := r.get' e2
  obtain ⟨s1, r1⟩ := new_pair dm s hT e (.int (i : Nat)) q
  refine ⟨s1, _, numbered_get ds 0 i d ed, ?_⟩
  rw [Nat.zero_add]
  exact r1
theorem wk_zip {F : Hp} {a b : Addr} {xs ys : List V} {ds es : List D} (h1 : SqT K F a xs) (r1 : RepL K F xs ds) (h2 : SqT K F b ys) (r2 : RepL K F ys es) : Wk K F (RZ.ItzT K a b) (paired ds es) := by
  refine ⟨fun H => SqT K H a xs ∧ SqT K H b ys, YPair (fun i => xs[i]?) (fun i => ys[i]?), by rw [paired_length, ← r1.length, ← r2.length]; exact walk_zipT, fun H s => ⟨seqT s h1, seqT s h2⟩, fun i H x H' O hi dm s y => ?_⟩
  obtain ⟨T, u, v, rfl, hT, e, e1, e2⟩ := y
  obtain ⟨d1, ed1, q1⟩ := r1.get' e1
  obtain ⟨d2, ed2, q2⟩ := r2.get' e2
  obtain ⟨s1, r1⟩ := new_pair dm s hT e q1 q2
  exact ⟨s1, _, paired_get ds es i d1 d2 ed1 ed2, r1⟩
section
variable {X : Cx} {e e2 tg : Expr} {es : List Expr} {te : TE} {t : TA} {fa : Sl → Option D} {f : Sl → Option (List D)} {pos p : Pos}
theorem di_list (h : DE X K e te fa) : DI X K tg e (iList K te) (iLst fa) := by
  refine ⟨?_, fun sl items hf O σ H R dm st q => ?_⟩
  · have k := h.kk
    subst k
    exact pi_list h.pe
  · unfold iLst at hf
    cases c : fa sl with
    | none => rw [c] at hf; cases hf
    | some d =>
      rw [c] at hf
      refine h.ev sl d c O σ H _ dm st fun v H1 s1 r => ?_
      cases r with
      | lst h1 r1 =>
        cases hf
        exact ⟨_, rfl, ⟨_, SqL.of (vis_sub _ _ h1)⟩, q _ H1 s1 (wk_list h1 r1)⟩
      | _ => cases hf
theorem di_tup (h : DE X K e te fa) : DI X K tg e (iTup K te) (iTp fa) := by
  refine ⟨?_, fun sl items hf O σ H R dm st q => ?_⟩
  · have k := h.kk
    subst k
    exact pi_tup h.pe
  · unfold iTp at hf
    cases c : fa sl with
    | none => rw [c] at hf; cases hf
    | some d =>
      rw [c] at hf
      refine h.ev sl d c O σ H _ dm st fun v H1 s1 r => ?_
      cases r with
      | tup h1 r1 =>
        cases hf
        exact ⟨_, rfl, ⟨_, seqT vis_sub h1⟩, q _ H1 s1 (wk_tup h1 r1)⟩
      | _ => cases hf
theorem di_range1 (hg : Gl X "range") (hm : X.mg "range" = none) (ha : DA X K [e] t f) (hs : starEach [e] X.env = [(false, eval e X.env)] := by rfl) : DI X K tg (.Call (.Name "range" p) [e] [] pos) (iRng1 t) (iR1 f) := by
  refine ⟨pi_range1 hg hm ha.pa hs, fun sl items hf O σ H R dm st q => ?_⟩
  unfold iR1 at hf
  cases c : f sl with
  | none => rw [c] at hf; cases hf
  | some ds =>
    rw [c] at hf
    simp only [Option.bind_some] at hf
    split at hf
    · rename_i j
      split at hf
      · rename_i hj
        cases hf
        refine ha.ev sl _ c O σ H _ dm st fun vs H1 s1 r => ?_
        cases r with
        | cons r1 r2 =>
          cases r2
          cases r1
          refine ⟨j, rfl, by omega, by omega, q _ H1 s1 ⟨fun _ => True, YFn fun i => .int (0 + i), ?_, fun _ _ => trivial, fun i H x H' O' hi dm' s y => ?_⟩⟩
          · rw [List.length_map, List.length_range]
            exact walk_range (lo := 0) (n := j.toNat)
          · obtain ⟨rfl, rfl⟩ := y
            rw [List.length_map, List.length_range] at hi
            refine ⟨Same.refl _, .int (i : Nat), by simp [hi], ?_⟩
            show Rep K _ (V.int (0 + (i : Int))) _
            rw [Int.zero_add]
            exact .int _
      · cases hf
    · cases hf
theorem rg4 {j : Int} (h0 : 0 ≤ j) (h1 : j < 1000) : RgC 0 j 4 ((j + 3) / 4).toNat := by
  have e : Builtin.Range.rangeSize 0 j 4 = (((j + 3) / 4).toNat : Int) := by
    unfold Builtin.Range.rangeSize
    rw [if_pos (by decide)]
    split <;> omega
  refine ⟨by decide, by decide, ?_, e⟩
  unfold Builtin.Range.small
  rw [e]
  simp only [Builtin.Range.rangeFitsLong, Bool.and_eq_true, decide_eq_true_eq]
  refine ⟨⟨⟨⟨by decide, ?_⟩, by decide⟩, ?_⟩, ?_⟩
  · omega
  · omega
  · rw [Bool.or_eq_true]
    right
    rw [if_pos (by decide)]
    simp only [Bool.and_eq_true, decide_eq_true_eq]
    omega
theorem di_range3 {a b c : Expr} (hg : Gl X "range") (hm : X.mg "range" = none) (ha : DA X K [a, b, c] t f) (hs : starEach [a, b, c] X.env = (false, eval a X.env) :: starEach [b, c] X.env := by rfl) (hpl : (backTo pos (starEach [b, c] X.env)).any (·.1) = false := by rfl) :
    DI X K tg (.Call (.Name "range" p) [a, b, c] [] pos) (iRng3 t) (iR3 f) := by
  refine ⟨pi_range3 hg hm ha.pa hs hpl, fun sl items hf O σ H R dm st q => ?_⟩
  unfold iR3 at hf
  cases c : f sl with
  | none => rw [c] at hf; cases hf
  | some ds =>
    rw [c] at hf
    simp only [Option.bind_some] at hf
    split at hf
    · rename_i j
      split at hf
      · rename_i hj
        cases hf
        refine ha.ev sl _ c O σ H _ dm st fun vs H1 s1 r => ?_
        cases r with
        | cons r1 r2 =>
          cases r2 with
          | cons r2 r3 =>
            cases r3 with
            | cons r3 r4 =>
              cases r4
              cases r1
              cases r2
              cases r3
              refine ⟨0, j, 4, _, rfl, rg4 hj.1 hj.2, q _ H1 s1 ⟨fun _ => True, YFn fun i => .int (0 + (i : Nat) * 4), ?_, fun _ _ => trivial, fun i H x H' O' hi dm' s y => ?_⟩⟩
              · rw [List.length_map, List.length_range]
                exact walk_rangeC
              · obtain ⟨rfl, rfl⟩ := y
                rw [List.length_map, List.length_range] at hi
                refine ⟨Same.refl _, .int ((i : Nat) * 4), by simp [hi], ?_⟩
                show Rep K _ (V.int (0 + (i : Int) * 4)) _
                rw [Int.zero_add]
                exact .int _
      · cases hf
    · cases hf
theorem di_enum {elts : List Expr} {kk : Nat} {tpos : Pos} (hg : Gl X "enumerate") (hm : X.mg "enumerate" = none) (ha : DA X K [e] t f) (hs : starEach [e] X.env = [(false, eval e X.env)] := by rfl) : DI X K (.Tuple elts kk tpos) (.Call (.Name "enumerate" p) [e] [] pos) (iEnumT K t) (iEn f) := by
  refine ⟨?_, fun sl items hf O σ H R dm st q => ?_⟩
  · have k := ha.kk
    subst k
    exact pi_enumT hg hm ha.pa hs
  · unfold iEn at hf
    cases c : f sl with
    | none => rw [c] at hf; cases hf
    | some ds =>
      rw [c] at hf
      simp only [Option.bind_some] at hf
      split at hf
      · cases hf
        refine ha.ev sl _ c O σ H _ dm st fun vs H1 s1 r => ?_
        cases r with
        | cons r1 r2 =>
          cases r2
          cases r1 with
          | tup h1 r1 => exact ⟨_, _, rfl, seqT vis_sub h1, q _ H1 s1 (wk_enum h1 r1)⟩
      · cases hf
theorem di_zip {elts : List Expr} {kk : Nat} {tpos : Pos} (hg : Gl X "zip") (hm : X.mg "zip" = none) (ha : DA X K [e, e2] t f) (hs : starEach [e, e2] X.env = (false, eval e X.env) :: starEach [e2] X.env := by rfl) (hpl : (backTo pos (starEach [e2] X.env)).any (·.1) = false := by rfl) :
    DI X K (.Tuple elts kk tpos) (.Call (.Name "zip" p) [e, e2] [] pos) (RZ.iZipA K t) (iZp f) := by
  refine ⟨?_, fun sl items hf O σ H R dm st q => ?_⟩
  · have k := ha.kk
    subst k
    exact RZ.pi_zipA hg hm ha.pa hs hpl
  · unfold iZp at hf
    cases c : f sl with
    | none => rw [c] at hf; cases hf
    | some ds =>
      rw [c] at hf
      simp only [Option.bind_some] at hf
      split at hf
      · cases hf
        refine ha.ev sl _ c O σ H _ dm st fun vs H1 s1 r => ?_
        cases r with
        | cons r1 r2 =>
          cases r2 with
          | cons r2 r3 =>
            cases r3
            cases r1 with
            | tup h1 r1 => cases r2 with
              | tup h2 r2 => exact ⟨_, _, _, _, rfl, .inr ⟨seqT vis_sub h1, seqT vis_sub h2, q _ H1 s1 (wk_zip h1 r1 h2 r2)⟩⟩
      · cases hf

/-! ### comprehensions -/
def wipeS (sl : Sl) : List Nat → Sl
  | [] => sl
  | v :: vs => (wipeS sl vs).set v none
theorem Slots.wipe {H : Hp} {sl : Sl} {σ : L2.St} (s : Slots K H sl σ) : ∀ vs, Slots K H (wipeS sl vs) (L2.wipe σ vs)
  | [] => s
  | v :: vs => (Slots.wipe s vs).unset
theorem wipe_off {σ : L2.St} : ∀ (vs : List Nat), (∀ i ∈ vs, i < σ.length → (L2.wipe σ vs)[i]? = some none) ∧ ∀ i, i ∉ vs → (L2.wipe σ vs)[i]? = σ[i]?
  | [] => ⟨fun _ h => by simp at h, fun _ _ => rfl⟩
  | v :: vs => by
    obtain ⟨h1, h2⟩ := wipe_off (σ := σ) vs
    refine ⟨fun i hi hl => ?_, fun i hi => ?_⟩
    · show ((L2.wipe σ vs).set v none)[i]? = some none
      by_cases e : v = i
      · subst e
        exact List.getElem?_set_self (by rw [wipe_length]; exact hl)
      · rw [List.getElem?_set_ne e]
        rcases List.mem_cons.mp hi with z | z
        · exact absurd z.symm e
        · exact h1 i z hl
    · show ((L2.wipe σ vs).set v none)[i]? = σ[i]?
      rw [List.getElem?_set_ne (fun e => hi (by rw [e]; exact List.mem_cons_self)), h2 i (fun z => hi (List.mem_cons_of_mem _ z))]
theorem wipe_eq {σ σ' : L2.St} {is vs : List Nat} (o : Off is σ σ') (h : ∀ i ∈ is, i ∈ vs) : L2.wipe σ' vs = L2.wipe σ vs := by
  apply List.ext_getElem?
  intro i
  by_cases hi : i ∈ vs
  · by_cases hl : i < σ.length
    · rw [(wipe_off vs).1 i hi (by rw [o.1]; exact hl), (wipe_off vs).1 i hi hl]
    · rw [List.getElem?_eq_none (by rw [wipe_length, o.1]; omega), List.getElem?_eq_none (by rw [wipe_length]; omega)]
  · rw [(wipe_off vs).2 i hi, (wipe_off vs).2 i hi]
    exact o.2 i fun z => hi (h i z)
theorem wipe_wipe (σ : L2.St) (vs : List Nat) : L2.wipe (L2.wipe σ vs) vs = L2.wipe σ vs := by
  apply List.ext_getElem?
  intro i
  by_cases hi : i ∈ vs
  · by_cases hl : i < σ.length
    · rw [(wipe_off vs).1 i hi (by rw [wipe_length]; exact hl), (wipe_off vs).1 i hi hl]
    · rw [List.getElem?_eq_none (by rw [wipe_length, wipe_length]; omega), List.getElem?_eq_none (by rw [wipe_length]; omega)]
  · rw [(wipe_off vs).2 i hi]
def compD (fg : D → Sl → Option Sl) (ft : Sl → Option Bool) (fe : Sl → Option D) (sl : Sl) : List D → Option (List D)
  | [] => some []
  | x :: r => (fg x sl).bind fun sl1 => (ft sl1).bind fun b => if b = true then (fe sl1).bind fun y => (compD fg ft fe sl r).map fun ys => y :: ys else compD fg ft fe sl r
def fLc (fi : Sl → Option (List D)) (fg : D → Sl → Option Sl) (ft : Sl → Option Bool) (fe : Sl → Option D) (vs : List Nat) : Sl → Option D := fun sl => (fi sl).bind fun items => if items.length ≤ line then (compD fg ft fe (wipeS sl vs) items).map D.lst else none
def fYes : Sl → Option Bool := fun _ => some true
theorem evt_yes : EvT K tYes fYes := fun sl b hf O σ H Q dm st q => by cases hf; exact q H (Same.refl H)
theorem compD_cons {fg : D → Sl → Option Sl} {ft : Sl → Option Bool} {fe : Sl → Option D} {sl : Sl} {x : D} {r out : List D} (h : compD fg ft fe sl (x :: r) = some out) :
    ∃ sl1 b, fg x sl = some sl1 ∧ ft sl1 = some b ∧ ((b = true ∧ ∃ y ys, fe sl1 = some y ∧ compD fg ft fe sl r = some ys ∧ out = y :: ys) ∨ (b = false ∧ compD fg ft fe sl r = some out)) := by
  unfold compD at h
  cases c1 : fg x sl with
  | none => rw [c1] at h; cases h
  | some sl1 =>
    rw [c1] at h
    simp only [Option.bind_some] at h
    cases c2 : ft sl1 with
    | none => rw [c2] at h; cases h
    | some b =>
      rw [c2] at h
      simp only [Option.bind_some] at h
      refine ⟨sl1, b, rfl, c2, ?_⟩
      cases b with
      | false => exact .inr ⟨rfl, by simpa using h⟩
      | true =>
        simp only [if_true] at h
        cases c3 : fe sl1 with
        | none => rw [c3] at h; cases h
        | some y =>
          rw [c3] at h
          simp only [Option.bind_some] at h
          cases c4 : compD fg ft fe sl r with
          | none => rw [c4] at h; cases h
          | some ys =>
            rw [c4] at h
            cases h
            exact .inl ⟨rfl, y, ys, rfl, rfl, rfl⟩
theorem ev_lc {wi : TI} {g : TG} {tt : TT} {te : TE} {fi : Sl → Option (List D)} {fg : D → Sl → Option Sl} {ft : Sl → Option Bool} {fe : Sl → Option D} {is vs : List Nat} (hi : EvI K wi fi) (hg : EvG K g is fg) (ht : EvT K tt ft) (he : Ev K te fe) (hsub : ∀ i ∈ is, i ∈ vs) :
    Ev K (tLc wi g tt te vs) (fLc fi fg ft fe vs) := by
  intro sl d hf O σ H Q dm st q
  unfold fLc at hf
  cases c : fi sl with
  | none => rw [c] at hf; cases hf
  | some items =>
    rw [c] at hf
    simp only [Option.bind_some] at hf
    split at hf
    · rename_i hlen
      cases c2 : compD fg ft fe (wipeS sl vs) items with
      | none => rw [c2] at hf; cases hf
      | some out =>
        rw [c2] at hf
        cases hf
        refine hi sl items c O σ H _ dm st fun J H1 s1 ⟨G, Y, wk, hG, hY⟩ D hD => ?_
        have dm1 := dm.mono s1
        have seen : ∀ H2, Same H1 H2 → Same (vis O H1) (vis (hid O D) H2) := fun H2 s b o e => by
          have e1 := vis_sub _ _ e
          have hb : b ≠ D := fun z => by rw [z, hD] at e1; cases e1
          have e2 := vis_same s _ _ e
          unfold vis at e2 ⊢
          unfold hid
          by_cases cc : O b = true
          · rw [if_pos cc] at e2; cases e2
          · rw [if_neg cc] at e2
            rw [if_neg]
            · exact e2
            · intro z
              rw [Bool.or_eq_true] at z
              rcases z with z | z
              · exact cc z
              · exact hb (by simpa using z)
        refine lc_it wk (fun i H2 => ∃ acc ds rest, H2 D = some (.lst acc) ∧ RepL K (vis (hid O D) H2) acc ds ∧ ds.length ≤ i ∧ Same H1 H2 ∧ compD fg ft fe (wipeS sl vs) (items.drop i) = some rest ∧ out = ds ++ rest)
          ⟨[], [], out, upd_same, .nil, Nat.le_refl _, same_upd hD, c2, rfl⟩ (fun i H2 _ ⟨_, _, _, _, _, _, s2, _⟩ => hG _ fun b o e => s2 b o (vis_sub b o e)) ?_ ?_
        · rintro i x H2 H3 hi' ⟨acc, ds, rest, hacc, racc, hle, s2, hrest, hout⟩ y
          have dm2 : Dom (hid O D) H2 := (dm1.mono s2).hid hacc
          obtain ⟨s3, d, hd, rd⟩ := hY i H2 x H3 (hid O D) hi' dm2 (seen H2 s2) y
          have s13 := s2.trans s3
          have hdrop : items.drop i = d :: items.drop (i + 1) := by
            obtain ⟨hlt, e⟩ := List.getElem?_eq_some_iff.mp hd
            rw [List.drop_eq_getElem_cons hlt, e]
          rw [hdrop] at hrest
          obtain ⟨sl1, b, g1, t1, alt⟩ := compD_cons hrest
          have stw : Slots K (vis (hid O D) H3) (wipeS sl vs) (L2.wipe σ vs) := ((st.mono (vis_same s1)).mono (seen H3 s13)).wipe vs
          refine hg d _ sl1 g1 (hid O D) x _ H3 _ rd stw fun σ2 off st2 => ⟨?_, ?_⟩
          · rw [wipe_eq off hsub, wipe_wipe]
          · have dm3 := dm2.mono s3
            refine ht sl1 b t1 (hid O D) σ2 H3 _ dm3 st2 fun H4 s4 => ?_
            have hacc3 := s4 _ _ (s3 _ _ hacc)
            rcases alt with ⟨rfl, yv, ys, e1, e2, e3⟩ | ⟨rfl, e2⟩
            · rw [if_pos rfl]
              refine he sl1 yv e1 (hid O D) σ2 H4 _ (dm3.mono s4) (st2.mono (vis_same s4)) fun v H5 s5 rv => ?_
              have hacc5 := s5 _ _ hacc3
              have s15 := (s13.trans s4).trans s5
              have racc5 := ((racc.mono (vis_same s3)).mono (vis_same s4)).mono (vis_same s5)
              refine ⟨acc, hacc5, ?_, acc ++ [v], ds ++ [yv], ys, upd_same, ?_, ?_, ?_, e2, ?_⟩
              · rw [racc5.length, line_is]; omega
              · rw [vis_upd hid_self]
                exact racc5.append (.cons rv .nil)
              · rw [List.length_append]; simp only [List.length_cons, List.length_nil]; omega
              · intro b o e
                rw [upd_ne (fun z => by rw [z, hD] at e; cases e)]
                exact s15 b o e
              · rw [hout, e3]; simp
            · rw [if_neg Bool.false_ne_true]
              exact ⟨acc, ds, rest, hacc3, (racc.mono (vis_same s3)).mono (vis_same s4), by omega, s13.trans s4, e2, hout⟩
        · rintro H2 ⟨acc, ds, rest, hacc, racc, hle, s2, hrest, hout⟩
          rw [List.drop_length] at hrest
          cases hrest
          rw [List.append_nil] at hout
          subst hout
          refine q _ H2 (s1.trans s2) (.lst ?_ (racc.mono (vis_less hid_le)))
          unfold vis
          rw [dm1.off hD, if_neg Bool.false_ne_true]
          exact hacc
    · cases hf
theorem de_lc {elt iter : Expr} {ifs : List Expr} {scope : Scope} {own : List (Str × Nat)} {wi : TI} {g : TG} {tt : TT} {te' : TE} {fi : Sl → Option (List D)} {fg : D → Sl → Option Sl} {ft : Sl → Option Bool} {fe : Sl → Option D} {is : List Nat} (hc : X.calm = true) (hN : X.N.Nodup) (kk : X.K = K)
    (hi : DI X K tg iter wi fi) (ok : BlkOk X.N X.env.scope scope own)
    (hg : ∀ (s : Shared) (H : Hp) (C : Addr) (cl : List (Str × Addr)) (fp : List Addr), DG (X.blk s H scope (compEnvC scope cl C X.env) fp) K tg g is fg) (ht : ∀ (s : Shared) (H : Hp) (C : Addr) (cl : List (Str × Addr)) (fp : List Addr), PTs (X.blk s H scope (compEnvC scope cl C X.env) fp) ifs tt ∧ EvT K tt ft)
    (he : ∀ (s : Shared) (H : Hp) (C : Addr) (cl : List (Str × Addr)) (fp : List Addr), DE (X.blk s H scope (compEnvC scope cl C X.env) fp) K elt te' fe) (hsub : ∀ i ∈ is, i ∈ own.map (·.2)) (hs : ∀ x, foldedSetIterable iter X.env x = pure x := by intro _; rfl) :
    DE X K (.ListComp elt [⟨tg, iter, ifs, 0⟩] scope pos) (tLc wi g tt te' (own.map (·.2))) (fLc fi fg ft fe (own.map (·.2))) := by
  refine ⟨pe_lc hc hN hi.pi ok (fun s H C cl fp => (hg s H C cl fp).pg) (fun s H C cl fp => (ht s H C cl fp).1) (fun s H C cl fp => (he s H C cl fp).pe) hs, kk, ?_⟩
  exact ev_lc hi.ev (hg {} (fun _ => none) 0 [] []).ev (ht {} (fun _ => none) 0 [] []).2 (he {} (fun _ => none) 0 [] []).ev hsub
end
end Sb
end
section
set_option Elab.async false
set_option linter.all false
set_option maxRecDepth 100000
set_option maxHeartbeats 4000000
namespace Sb
open PySem PySem.Spec PyProof.Rows L2
variable {K : PySem.W.Frag}

/-! ### statements -/
/-- the slots' data; and one slot that holds a list which the def fills -/
structure SE where
  sl : Sl
  own : Option (Nat × List D)
inductive Out where
  | nx (e : SE)
  | rt (d : D)
/-- the list that is filled, read as it stands -/
def frz (e : SE) : Sl := match e.own with
  | none => e.sl
  | some (i, ds) => e.sl.set i (some (.lst ds))
structure SOk (K : PySem.W.Frag) (O : Hid) (H0 : Hp) (e : SE) (σ : L2.St) (H : Hp) : Prop where
  same : Same H0 H
  dom : Dom O H
  data : match e.own with
    | none => Slots K (vis O H) e.sl σ
    | some (i, ds) => ∃ p xs, σ[i]? = some (some (.ref p)) ∧ H0 p = none ∧ O p = false ∧ H p = some (.lst xs) ∧ RepL K (vis (hid O p) H) xs ds ∧ Slots K (vis (hid O p) H) e.sl σ
def OutOk (K : PySem.W.Frag) (O : Hid) (H0 : Hp) (Dn : Ends) : Out → Prop
  | .nx e => ∀ σ H, SOk K O H0 e σ H → Dn.nx σ H
  | .rt d => ∀ v H, Same H0 H → Rep K (vis O H) v d → Dn.rt v H
def EvS (K : PySem.W.Frag) (t : TS) (g : SE → Option Out) : Prop := ∀ e out, g e = some out → ∀ (O : Hid) (H0 : Hp) (σ : L2.St) (H : Hp) (Dn : Ends), SOk K O H0 e σ H → OutOk K O H0 Dn out → t Dn σ H
structure DS (X : Cx) (K : PySem.W.Frag) (st : Stmt) (t : TS) (g : SE → Option Out) : Prop where
  ps : PS X st t
  ev : EvS K t g
structure DSs (X : Cx) (K : PySem.W.Frag) (sts : List Stmt) (t : TS) (g : SE → Option Out) : Prop where
  ps : PSs X sts t
  ev : EvS K t g
section
variable {O : Hid} {H0 H H' : Hp} {e : SE} {σ : L2.St}
/-- what the slots are read over -/
theorem SOk.eff (s : SOk K O H0 e σ H) : ∃ O' : Hid, Dom O' H ∧ Slots K (vis O' H) e.sl σ ∧ (∀ H', Same H H' → SOk K O H0 e σ H') ∧ (∀ a, O a = true → O' a = true) ∧ Same H0 (fun a => if O a = true then H a else vis O' H a) := by
  obtain ⟨sl, own⟩ := e
  cases own with
  | none =>
    refine ⟨O, s.dom, s.data, fun H' s' => ⟨s.same.trans s', s.dom.mono s', (show Slots K (vis O H) sl σ from s.data).mono (vis_same s')⟩, fun _ h => h, fun b o h => ?_⟩
    show (if O b = true then H b else vis O H b) = some o
    by_cases c : O b = true
    · rw [if_pos c]; exact s.same b o h
    · rw [if_neg c]; unfold vis; rw [if_neg c]; exact s.same b o h
  | some x =>
    obtain ⟨i, ds⟩ := x
    obtain ⟨p, xs, h1, h2, h3, h4, h5, h6⟩ := s.data
    refine ⟨hid O p, s.dom.hid h4, h6, fun H' s' => ⟨s.same.trans s', s.dom.mono s', p, xs, h1, h2, h3, s' _ _ h4, h5.mono (vis_same s'), h6.mono (vis_same s')⟩, hid_le, fun b o h => ?_⟩
    show (if O b = true then H b else vis (hid O p) H b) = some o
    by_cases c : O b = true
    · rw [if_pos c]; exact s.same b o h
    · rw [if_neg c]
      unfold vis hid
      have hb : b ≠ p := fun z => by rw [z, h2] at h; cases h
      rw [if_neg (by simp [c, hb])]
      exact s.same b o h
theorem SOk.frozen (s : SOk K O H0 e σ H) : Slots K (vis O H) (frz e) σ := by
  obtain ⟨sl, own⟩ := e
  cases own with
  | none => exact s.data
  | some x =>
    obtain ⟨i, ds⟩ := x
    obtain ⟨p, xs, h1, h2, h3, h4, h5, h6⟩ := s.data
    have h6' := h6.mono (vis_less (hid_le (O := O) (p := p)))
    have r : Rep K (vis O H) (.ref p) (.lst ds) := .lst (by unfold vis; rw [h3, if_neg Bool.false_ne_true]; exact h4) (h5.mono (vis_less hid_le))
    have hσ : σ.set i (some (.ref p)) = σ := by
      apply List.ext_getElem?
      intro j
      by_cases hj : i = j
      · subst hj
        rw [h1, List.getElem?_set_self (List.getElem?_eq_some_iff.mp h1).1]
      · rw [List.getElem?_set_ne hj]
    have q := h6'.set (i := i) r
    rw [hσ] at q
    exact q
/-- other slots are stored -/
theorem SOk.store (s : SOk K O H0 e σ H) {σ' : L2.St} {is : List Nat} {sl' : Sl} (off : Off is σ σ') (hown : ∀ i ds, e.own = some (i, ds) → i ∉ is)
    (h : ∀ O' : Hid, Slots K (vis O' H) e.sl σ → (∀ a, O a = true → O' a = true) → Dom O' H → Slots K (vis O' H) sl' σ') : SOk K O H0 ⟨sl', e.own⟩ σ' H := by
  obtain ⟨sl, own⟩ := e
  cases own with
  | none => exact ⟨s.same, s.dom, h O s.data (fun _ h => h) s.dom⟩
  | some x =>
    obtain ⟨i, ds⟩ := x
    obtain ⟨p, xs, h1, h2, h3, h4, h5, h6⟩ := s.data
    exact ⟨s.same, s.dom, p, xs, by rw [off.2 i (hown i ds rfl)]; exact h1, h2, h3, h4, h5, h (hid O p) h6 hid_le (s.dom.hid h4)⟩
end

/-! #### blocks -/
def sNext : SE → Option Out := fun e => some (.nx e)
def sSeq (g h : SE → Option Out) : SE → Option Out := fun e => (g e).bind fun o => match o with
  | .nx e' => h e'
  | .rt d => some (.rt d)
section
variable {X : Cx} {st : Stmt} {rest : List Stmt} {t u : TS} {g h : SE → Option Out} {ex : Expr} {te : TE} {f : Sl → Option D} {pos : Pos}
theorem dss_nil : DSs X K [] tNext sNext := ⟨pss_nil, fun e out hf O H0 σ H Dn s o => by cases hf; exact o σ H s⟩
theorem dss_cons (h1 : DS X K st t g) (h2 : DSs X K rest u h) : DSs X K (st :: rest) (tSeq t u) (sSeq g h) := by
  refine ⟨pss_cons h1.ps h2.ps, fun e out hf O H0 σ H Dn s o => ?_⟩
  unfold sSeq at hf
  cases c : g e with
  | none => rw [c] at hf; cases hf
  | some m =>
    rw [c] at hf
    refine h1.ev e m c O H0 σ H { Dn with nx := u Dn } s ?_
    cases m with
    | nx e' => exact fun σ' H' s' => h2.ev e' out hf O H0 σ' H' Dn s' o
    | rt d => cases hf; exact o
theorem dss_one (h1 : DS X K st t g) : DSs X K [st] t g := ⟨pss_one h1.ps, h1.ev⟩
def sRet (f : Sl → Option D) : SE → Option Out := fun e => (f (frz e)).map Out.rt
theorem ds_ret (he : DE X K ex te f) : DS X K (.Return (some ex) pos) (tRet te) (sRet f) := by
  refine ⟨ps_ret he.pe, fun e out hf O H0 σ H Dn s o => ?_⟩
  unfold sRet at hf
  cases c : f (frz e) with
  | none => rw [c] at hf; cases hf
  | some d =>
    rw [c] at hf
    cases hf
    exact he.ev _ d c O σ H _ s.dom s.frozen fun v H' s' r => o v H' (s.same.trans s') r
def sIf (c : Sl → Option Bool) (g h : SE → Option Out) : SE → Option Out := fun e => (c (frz e)).bind fun b => if b = true then g e else h e
theorem SOk.later {O : Hid} {H0 H H' : Hp} {e : SE} {σ : L2.St} (s : SOk K O H0 e σ H) (s' : Same H H') : SOk K O H0 e σ H' := let ⟨_, _, _, k, _⟩ := s.eff; k H' s'
theorem ds_if {c : Expr} {a b : List Stmt} {tc : TT} {fc : Sl → Option Bool} (hc : DT X K c tc fc) (ha : DSs X K a t g) (hb : DSs X K b u h) : DS X K (.If c a b pos) (tIfS tc t u) (sIf fc g h) := by
  refine ⟨ps_if hc.pt ha.ps hb.ps, fun e out hf O H0 σ H Dn s o => ?_⟩
  unfold sIf at hf
  cases c1 : fc (frz e) with
  | none => rw [c1] at hf; cases hf
  | some k =>
    rw [c1] at hf
    refine hc.ev _ k c1 O σ H _ s.dom s.frozen fun H' s' => ?_
    cases k with
    | true => exact iteT (ha.ev e out hf O H0 σ H' Dn (s.later s') o)
    | false => exact iteF (hb.ev e out hf O H0 σ H' Dn (s.later s') o)
/-- target = value -/
def ownOff (e : SE) (is : List Nat) : Bool := match e.own with
  | none => true
  | some (i, _) => !is.contains i
def sAsg (f : Sl → Option D) (is : List Nat) (fg : D → Sl → Option Sl) : SE → Option Out := fun e => (f e.sl).bind fun d => (fg d e.sl).bind fun sl' => if ownOff e is = true then some (.nx ⟨sl', e.own⟩) else none
theorem ownOff_of {e : SE} {is : List Nat} (h : ownOff e is = true) : ∀ i ds, e.own = some (i, ds) → i ∉ is := fun i ds q z => by
  unfold ownOff at h
  rw [q] at h
  simp only at h
  rw [List.contains_iff_mem.mpr z] at h
  cases h
theorem ev_asg {te : TE} {gt : TG} {f : Sl → Option D} {is : List Nat} {fg : D → Sl → Option Sl} (he : Ev K te f) (hg : EvG K gt is fg) : EvS K (tAsg te gt) (sAsg f is fg) := by
  intro e out hf O H0 σ H Dn s o
  unfold sAsg at hf
  cases c1 : f e.sl with
  | none => rw [c1] at hf; cases hf
  | some d =>
    rw [c1] at hf
    simp only [Option.bind_some] at hf
    cases c2 : fg d e.sl with
    | none => rw [c2] at hf; cases hf
    | some sl' =>
      rw [c2] at hf
      simp only [Option.bind_some] at hf
      split at hf
      · rename_i hoff
        cases hf
        obtain ⟨sl, own⟩ := e
        cases own with
        | none =>
          refine he sl d c1 O σ H _ s.dom s.data fun v H' s' r => ?_
          have s2 := s.later s'
          refine hg d sl sl' c2 O v σ H' _ r s2.data fun σ' off st => ?_
          exact o σ' H' ⟨s2.same, s2.dom, st⟩
        | some x =>
          obtain ⟨i, ds⟩ := x
          obtain ⟨p, xs, h1, h2, h3, h4, h5, h6⟩ := s.data
          refine he sl d c1 (hid O p) σ H _ (s.dom.hid h4) h6 fun v H' s' r => ?_
          refine hg d sl sl' c2 (hid O p) v σ H' _ r (h6.mono (vis_same s')) fun σ' off st => ?_
          exact o σ' H' ⟨s.same.trans s', s.dom.mono s', p, xs, by rw [off.2 i (ownOff_of hoff i ds rfl)]; exact h1, h2, h3, s' _ _ h4, h5.mono (vis_same s'), st⟩
      · cases hf
theorem ds_asg {tg : Expr} {gt : TG} {is : List Nat} {fg : D → Sl → Option Sl} (he : DE X K ex te f) (hg : DG X K tg gt is fg) (hs : swapsWithSole [tg] ex pos.line X.env = pure false := by rfl) (hw : swappedStores [tg] ex X.env = pure none := by rfl)
    (h1 : (assignEach [tg] X.env).map (·.2) = [assign tg X.env] := by rfl) : DS X K (.Assign [tg] ex pos) (tAsg te gt) (sAsg f is fg) := ⟨ps_asg he.pe hg.pg hs hw h1, ev_asg he.ev hg.ev⟩
theorem ds_of {stm : Stmt} {gt : TG} {is : List Nat} {fg : D → Sl → Option Sl} (hp : PS X stm (tAsg te gt)) (he : Ev K te f) (hg : EvG K gt is fg) : DS X K stm (tAsg te gt) (sAsg f is fg) := ⟨hp, ev_asg he hg⟩
/-- name = [..], a list that the def will fill -/
def sOwn (f : Sl → Option (List D)) (i : Nat) : SE → Option Out := fun e => (f e.sl).bind fun ds => if e.own.isNone = true ∧ ds.length ≤ 1000 ∧ i < e.sl.length then some (.nx ⟨e.sl.set i none, some (i, ds)⟩) else none
theorem ds_own {i : Nat} {x : Str} {es : List Expr} {ta : TA} {fa : Sl → Option (List D)} {pos' lp : Pos} (ha : DA X K es ta fa) (hp : PS X (.Assign [.Name x pos'] (.List es lp) pos) (tAsg (tLst ta) (gName i))) : DS X K (.Assign [.Name x pos'] (.List es lp) pos) (tAsg (tLst ta) (gName i)) (sOwn fa i) := by
  refine ⟨hp, fun e out hf O H0 σ H Dn s o => ?_⟩
  unfold sOwn at hf
  cases c1 : fa e.sl with
  | none => rw [c1] at hf; cases hf
  | some ds =>
    rw [c1] at hf
    simp only [Option.bind_some] at hf
    split at hf
    · rename_i hh
      obtain ⟨hn, hl, hi⟩ := hh
      cases hf
      obtain ⟨sl, own⟩ := e
      cases own with
      | some x => cases hn
      | none =>
        have st : Slots K (vis O H) sl σ := s.data
        refine ha.ev sl ds c1 O σ H _ s.dom st fun vs H1 s1 r => ⟨by rw [r.length]; exact small_line hl, fun p hp' => ?_⟩
        have s2 := s.later s1
        have sp := same_upd (o := .lst vs) hp'
        have hO := s2.dom.off hp'
        have hseen : Same (vis O H1) (vis (hid O p) (upd H1 p (.lst vs))) := fun b ob e' => by
          have e1 := vis_sub _ _ e'
          have hb : b ≠ p := fun z => by rw [z, hp'] at e1; cases e1
          unfold vis at e' ⊢
          by_cases cc : O b = true
          · rw [if_pos cc] at e'; cases e'
          · rw [if_neg cc] at e'
            unfold hid
            rw [if_neg (by simp [cc, hb]), upd_ne hb]
            exact e'
        refine o _ _ ⟨s2.same.trans sp, s2.dom.mono sp, p, vs, ?_, ?_, hO, upd_same, r.mono hseen, ?_⟩
        · exact List.getElem?_set_self (by have := st.len; simp only at hi; omega)
        · cases q : H0 p with
          | none => rfl
          | some ob => rw [s2.same p ob q] at hp'; cases hp'
        · exact ((st.mono (vis_same s1)).mono hseen).unset
    · cases hf
/-- name.append(e), name.extend(e) -/
def sApp (i : Nat) (f : Sl → Option D) : SE → Option Out := fun e => match e.own with
  | some (j, ds) => if j = i ∧ ds.length < line then (f e.sl).map fun d => .nx ⟨e.sl, some (i, ds ++ [d])⟩ else none
  | none => none
def sExtL (i : Nat) (f : Sl → Option D) : SE → Option Out := fun e => match e.own with
  | some (j, ds) => (f e.sl).bind fun d => match d with
    | .lst zs => if j = i ∧ ds.length + zs.length ≤ line then some (.nx ⟨e.sl, some (i, ds ++ zs)⟩) else none
    | _ => none
  | none => none
def sExtT (i : Nat) (f : Sl → Option D) : SE → Option Out := fun e => match e.own with
  | some (j, ds) => (f e.sl).bind fun d => match d with
    | .tup zs => if j = i ∧ ds.length + zs.length ≤ line then some (.nx ⟨e.sl, some (i, ds ++ zs)⟩) else none
    | _ => none
  | none => none
/-- the list that is filled has grown -/
theorem SOk.grown {O : Hid} {H0 H H' : Hp} {sl : Sl} {i : Nat} {ds zs : List D} {σ : L2.St} {p : Addr} {xs ys : List V} (same : Same H0 H) (dom : Dom O H) (s' : Same H H') (h1 : σ[i]? = some (some (.ref p))) (h2 : H0 p = none) (h3 : O p = false) (h4 : H p = some (.lst xs)) (h5 : RepL K (vis (hid O p) H) xs ds)
    (h6 : Slots K (vis (hid O p) H) sl σ) (r : RepL K (vis (hid O p) H') ys zs) : SOk K O H0 ⟨sl, some (i, ds ++ zs)⟩ σ (upd H' p (.lst (xs ++ ys))) := by
  have hs : Same H0 (upd H' p (.lst (xs ++ ys))) := fun b o e => by
    rw [upd_ne (fun z => by rw [z, h2] at e; cases e)]
    exact s' b o (same b o e)
  have hd : Dom O (upd H' p (.lst (xs ++ ys))) := fun a ha q => by
    by_cases e : a = p
    · rw [e, upd_same] at q; cases q
    · rw [upd_ne e] at q; exact dom.mono s' a ha q
  refine ⟨hs, hd, p, xs ++ ys, h1, h2, h3, upd_same, ?_, ?_⟩
  · rw [vis_upd hid_self]
    exact (h5.mono (vis_same s')).append r
  · rw [vis_upd hid_self]
    exact h6.mono (vis_same s')
theorem ev_app {i : Nat} {te : TE} {f : Sl → Option D} (he : Ev K te f) : EvS K (tDrop (tBM K "list" rAppend (tVar i) (tCons te tNil))) (sApp i f) := by
  intro e out hf O H0 σ H Dn s o
  unfold sApp at hf
  obtain ⟨sl, own⟩ := e
  cases own with
  | none => cases hf
  | some x =>
    obtain ⟨j, ds⟩ := x
    simp only at hf
    split at hf
    · rename_i hh
      obtain ⟨rfl, hl⟩ := hh
      cases c : f sl with
      | none => rw [c] at hf; cases hf
      | some d =>
        rw [c] at hf
        cases hf
        obtain ⟨p, xs, h1, h2, h3, h4, h5, h6⟩ := s.data
        refine ⟨_, h1, .inl ⟨rfl, _, SqL.of h4⟩, ?_⟩
        refine he sl d c (hid O p) σ H _ (s.dom.hid h4) h6 fun v H' s' r => ?_
        refine ⟨p, xs, v, rfl, rfl, s' _ _ h4, by rw [h5.length, line_is]; exact hl, ?_⟩
        exact o _ _ (SOk.grown s.same s.dom s' h1 h2 h3 h4 h5 h6 (.cons r .nil))
    · cases hf
theorem ev_extL {i : Nat} {te : TE} {f : Sl → Option D} (he : Ev K te f) : EvS K (tDrop (tBM K "list" rExtend (tVar i) (tCons te tNil))) (sExtL i f) := by
  intro e out hf O H0 σ H Dn s o
  unfold sExtL at hf
  obtain ⟨sl, own⟩ := e
  cases own with
  | none => cases hf
  | some x =>
    obtain ⟨j, ds⟩ := x
    simp only at hf
    cases c : f sl with
    | none => rw [c] at hf; cases hf
    | some d =>
      rw [c] at hf
      simp only [Option.bind_some] at hf
      split at hf
      · split at hf
        · rename_i zs hh
          obtain ⟨rfl, hl⟩ := hh
          cases hf
          obtain ⟨p, xs, h1, h2, h3, h4, h5, h6⟩ := s.data
          refine ⟨_, h1, .inl ⟨rfl, _, SqL.of h4⟩, ?_⟩
          refine he sl _ c (hid O p) σ H _ (s.dom.hid h4) h6 fun v H' s' r => ?_
          cases r with
          | lst g1 g2 =>
            refine ⟨p, _, xs, _, rfl, rfl, s' _ _ h4, vis_sub _ _ g1, by rw [h5.length, g2.length, line_is]; exact hl, ?_⟩
            exact o _ _ (SOk.grown s.same s.dom s' h1 h2 h3 h4 h5 h6 g2)
        · cases hf
      · cases hf
theorem ev_extT {i : Nat} {te : TE} {f : Sl → Option D} (he : Ev K te f) : EvS K (tDrop (tBM K "list" (rExtendT K) (tVar i) (tCons te tNil))) (sExtT i f) := by
  intro e out hf O H0 σ H Dn s o
  unfold sExtT at hf
  obtain ⟨sl, own⟩ := e
  cases own with
  | none => cases hf
  | some x =>
    obtain ⟨j, ds⟩ := x
    simp only at hf
    cases c : f sl with
    | none => rw [c] at hf; cases hf
    | some d =>
      rw [c] at hf
      simp only [Option.bind_some] at hf
      split at hf
      · split at hf
        · rename_i zs hh
          obtain ⟨rfl, hl⟩ := hh
          cases hf
          obtain ⟨p, xs, h1, h2, h3, h4, h5, h6⟩ := s.data
          refine ⟨_, h1, .inl ⟨rfl, _, SqL.of h4⟩, ?_⟩
          refine he sl _ c (hid O p) σ H _ (s.dom.hid h4) h6 fun v H' s' r => ?_
          cases r with
          | tup g1 g2 =>
            refine ⟨p, _, xs, _, rfl, rfl, s' _ _ h4, seqT vis_sub g1, by rw [h5.length, g2.length, line_is]; exact hl, ?_⟩
            exact o _ _ (SOk.grown s.same s.dom s' h1 h2 h3 h4 h5 h6 g2)
        · cases hf
      · cases hf
end
end Sb
end
section
set_option Elab.async false
set_option linter.all false
set_option maxRecDepth 100000
set_option maxHeartbeats 4000000
namespace Sb
open PySem PySem.Spec PyProof.Rows L2
variable {K : PySem.W.Frag}

/-! ### loops -/
def forD (is : List Nat) (fg : D → Sl → Option Sl) (g : SE → Option Out) : List D → SE → Option Out
  | [], e => some (.nx e)
  | x :: r, e => (fg x e.sl).bind fun sl' => if ownOff e is = true then (g ⟨sl', e.own⟩).bind fun o => match o with
    | .nx e' => forD is fg g r e'
    | .rt d => some (.rt d) else none
def sFor (fi : Sl → Option (List D)) (is : List Nat) (fg : D → Sl → Option Sl) (g : SE → Option Out) : SE → Option Out := fun e => (fi e.sl).bind fun items => forD is fg g items e
def whileD (c : Sl → Option Bool) (g : SE → Option Out) : Nat → SE → Option Out
  | 0, _ => none
  | n + 1, e => (c (frz e)).bind fun b => if b = true then (g e).bind fun o => match o with
    | .nx e' => whileD c g n e'
    | .rt d => some (.rt d) else some (.nx e)
theorem forD_cons {is : List Nat} {fg : D → Sl → Option Sl} {g : SE → Option Out} {x : D} {r : List D} {e : SE} {out : Out} (h : forD is fg g (x :: r) e = some out) :
    ∃ sl' o, fg x e.sl = some sl' ∧ ownOff e is = true ∧ g ⟨sl', e.own⟩ = some o ∧ ((∃ e', o = .nx e' ∧ forD is fg g r e' = some out) ∨ ∃ d, o = .rt d ∧ out = .rt d) := by
  unfold forD at h
  cases c1 : fg x e.sl with
  | none => rw [c1] at h; cases h
  | some sl' =>
    rw [c1] at h
    simp only [Option.bind_some] at h
    split at h
    · rename_i hoff
      cases c2 : g ⟨sl', e.own⟩ with
      | none => rw [c2] at h; cases h
      | some o =>
        rw [c2] at h
        refine ⟨sl', o, rfl, hoff, c2, ?_⟩
        cases o with
        | nx e' => exact .inl ⟨e', rfl, h⟩
        | rt d => cases h; exact .inr ⟨d, rfl, rfl⟩
    · cases h
section
variable {O : Hid} {H0 H H' : Hp} {e : SE} {σ : L2.St}
/-- what the slots are read over, and how a store goes on -/
theorem SOk.eff2 (s : SOk K O H0 e σ H) : ∃ O' : Hid, Dom O' H ∧ Slots K (vis O' H) e.sl σ ∧ (∀ (is : List Nat) (H' : Hp) (σ' : L2.St) (sl' : Sl), Same H H' → Off is σ σ' → ownOff e is = true → Slots K (vis O' H') sl' σ' → SOk K O H0 ⟨sl', e.own⟩ σ' H') ∧
    ∀ F : Hp, Same F H0 → (∀ a o, F a = some o → O a = false) → Same F (vis O' H) := by
  obtain ⟨sl, own⟩ := e
  cases own with
  | none =>
    refine ⟨O, s.dom, s.data, fun is H' σ' sl' s' off ho st => ⟨s.same.trans s', s.dom.mono s', st⟩, fun F hF hO b o h => ?_⟩
    unfold vis
    rw [hO b o h, if_neg Bool.false_ne_true]
    exact s.same b o (hF b o h)
  | some x =>
    obtain ⟨i, ds⟩ := x
    obtain ⟨p, xs, h1, h2, h3, h4, h5, h6⟩ := s.data
    refine ⟨hid O p, s.dom.hid h4, h6, fun is H' σ' sl' s' off ho st => ⟨s.same.trans s', s.dom.mono s', p, xs, by rw [off.2 i (ownOff_of ho i ds rfl)]; exact h1, h2, h3, s' _ _ h4, h5.mono (vis_same s'), st⟩, fun F hF hO b o h => ?_⟩
    have hb : b ≠ p := fun z => by have q := hF b o h; rw [z, h2] at q; cases q
    unfold vis hid
    rw [if_neg (by simp [hO b o h, hb])]
    exact s.same b o (hF b o h)
/-- a base at a loop's start: all but the list that is filled -/
theorem SOk.based (s : SOk K O H0 e σ H) : ∃ B : Hp, Same H0 B ∧ SOk K O B e σ H ∧ ∃ O' : Hid, Dom O' H ∧ Slots K (vis O' H) e.sl σ ∧ (∀ a, O a = true → O' a = true) ∧ ∀ H1, Same H H1 → ∃ B : Hp, Same H0 B ∧ SOk K O B e σ H1 ∧ Same (vis O' H1) B := by
  obtain ⟨sl, own⟩ := e
  cases own with
  | none =>
    have st : Slots K (vis O H) sl σ := s.data
    exact ⟨H, s.same, ⟨Same.refl H, s.dom, st⟩, O, s.dom, st, fun _ h => h, fun H1 s1 => ⟨H1, s.same.trans s1, ⟨Same.refl H1, s.dom.mono s1, st.mono (vis_same s1)⟩, vis_sub⟩⟩
  | some x =>
    obtain ⟨i, ds⟩ := x
    obtain ⟨p, xs, h1, h2, h3, h4, h5, h6⟩ := s.data
    have go : ∀ H1, Same H H1 → ∃ B : Hp, Same H0 B ∧ SOk K O B ⟨sl, some (i, ds)⟩ σ H1 ∧ Same (vis (hid O p) H1) B := fun H1 s1 => by
      refine ⟨fun a => if a = p then none else H1 a, fun b o h => ?_, ⟨fun b o h => ?_, s.dom.mono s1, p, xs, h1, if_pos rfl, h3, s1 _ _ h4, h5.mono (vis_same s1), h6.mono (vis_same s1)⟩, fun b o h => ?_⟩
      · have hb : b ≠ p := fun z => by rw [z, h2] at h; cases h
        show (if b = p then none else H1 b) = some o
        rw [if_neg hb]
        exact s1 b o (s.same b o h)
      · have h' : (if b = p then none else H1 b) = some o := h
        by_cases hb : b = p
        · rw [if_pos hb] at h'; cases h'
        · rw [if_neg hb] at h'; exact h'
      · show (if b = p then none else H1 b) = some o
        unfold vis hid at h
        by_cases hb : b = p
        · rw [if_pos (by simp [hb])] at h; cases h
        · rw [if_neg hb]
          exact vis_sub (O := hid O p) b o h
    obtain ⟨B, b1, b2, _⟩ := go H (Same.refl H)
    exact ⟨B, b1, b2, hid O p, s.dom.hid h4, h6, hid_le, go⟩
theorem SOk.back {B : Hp} (s : SOk K O B e σ H) (h : Same H0 B) : SOk K O H0 e σ H := by
  obtain ⟨sl, own⟩ := e
  cases own with
  | none => exact ⟨h.trans s.same, s.dom, s.data⟩
  | some x =>
    obtain ⟨i, ds⟩ := x
    obtain ⟨p, xs, h1, h2, h3, h4, h5, h6⟩ := s.data
    refine ⟨h.trans s.same, s.dom, p, xs, h1, ?_, h3, h4, h5, h6⟩
    cases q : H0 p with
    | none => rfl
    | some ob => rw [h p ob q] at h2; cases h2
end
theorem ev_for {wi : TI} {gt : TG} {tb : TS} {fi : Sl → Option (List D)} {is : List Nat} {fg : D → Sl → Option Sl} {g : SE → Option Out} (hi : EvI K wi fi) (hg : EvG K gt is fg) (hb : EvS K tb g) : EvS K (tFor wi gt tb) (sFor fi is fg g) := by
  intro e out hf O H0 σ H Dn s o
  unfold sFor at hf
  cases c : fi e.sl with
  | none => rw [c] at hf; cases hf
  | some items =>
    rw [c] at hf
    simp only [Option.bind_some] at hf
    obtain ⟨_, _, _, O', dm', st', hle, go⟩ := s.based
    refine hi e.sl items c O' σ H _ dm' st' fun J H1 s1 ⟨G, Y, wk, hG, hY⟩ => ?_
    obtain ⟨B, hB, sB, hF⟩ := go H1 s1
    have hFO : ∀ a ob, vis O' H1 a = some ob → O a = false := fun a ob h => by
      cases q : O a with
      | false => rfl
      | true =>
        have z := hle a q
        unfold vis at h
        rw [z, if_pos rfl] at h
        cases h
    refine for_it wk (fun i σ H => ∃ ei, SOk K O B ei σ H ∧ forD is fg g (items.drop i) ei = some out) ⟨e, sB, by simpa using hf⟩ (fun i σ H _ ⟨ei, si, _⟩ => hG _ (hF.trans si.same)) ?_ ?_
    · rintro i x σ2 H2 H3 hlt ⟨ei, si, hfi⟩ y
      obtain ⟨O2, dm2, st2, next, seen⟩ := si.eff2
      obtain ⟨s3, d, hd, rd⟩ := hY i H2 x H3 O2 hlt dm2 (seen _ hF hFO) y
      have hdrop : items.drop i = d :: items.drop (i + 1) := by
        obtain ⟨hl, e'⟩ := List.getElem?_eq_some_iff.mp hd
        rw [List.drop_eq_getElem_cons hl, e']
      rw [hdrop] at hfi
      obtain ⟨sl', ob, f1, f2, f3, f4⟩ := forD_cons hfi
      refine hg d ei.sl sl' f1 O2 x σ2 H3 _ rd (st2.mono (vis_same s3)) fun σ4 off st4 => ?_
      have s4 := next is H3 σ4 sl' s3 off f2 st4
      refine hb _ ob f3 O B σ4 H3 _ s4 ?_
      rcases f4 with ⟨e', rfl, hr⟩ | ⟨d', rfl, rfl⟩
      · exact fun σ5 H5 s5 => ⟨e', s5, hr⟩
      · exact fun v H5 s5 r5 => o v H5 (hB.trans s5) r5
    · rintro σ2 H2 ⟨ei, si, hfi⟩
      rw [List.drop_length] at hfi
      cases hfi
      exact o σ2 H2 (si.back hB)
theorem ev_while {tc : TT} {tb : TS} {fc : Sl → Option Bool} {g : SE → Option Out} (hc : EvT K tc fc) (hb : EvS K tb g) (n : Nat) : EvS K (tWhile tc tb) (whileD fc g n) := by
  intro e out hf O H0 σ H Dn s o
  refine ⟨fun m σ H => ∃ e, SOk K O H0 e σ H ∧ whileD fc g m e = some out, ⟨n, e, s, hf⟩, ?_⟩
  rintro m σ1 H1 ⟨e1, s1, h1⟩
  cases m with
  | zero => cases h1
  | succ m =>
    unfold whileD at h1
    cases c : fc (frz e1) with
    | none => rw [c] at h1; cases h1
    | some b =>
      rw [c] at h1
      simp only [Option.bind_some] at h1
      refine hc _ b c O σ1 H1 _ s1.dom s1.frozen fun H2 s2 => ?_
      have s3 := s1.later s2
      cases b with
      | false =>
        cases h1
        exact iteF (o σ1 H2 s3)
      | true =>
        simp only [if_true] at h1
        refine iteT ⟨fun σ H => ∃ e, SOk K O H0 e σ H ∧ whileD fc g m e = some out, fun σ' H' q => ⟨m, Nat.lt_succ_self m, q⟩, ?_⟩
        cases c2 : g e1 with
        | none => rw [c2] at h1; cases h1
        | some ob =>
          rw [c2] at h1
          refine hb e1 ob c2 O H0 σ1 H2 _ s3 ?_
          cases ob with
          | nx e' => exact fun σ4 H4 s4 => ⟨e', s4, h1⟩
          | rt d => cases h1; exact o
section
variable {X : Cx} {pos : Pos}
theorem ds_for {tg iter : Expr} {body : List Stmt} {wi : TI} {gt : TG} {tb : TS} {fi : Sl → Option (List D)} {is : List Nat} {fg : D → Sl → Option Sl} {g : SE → Option Out} (hp : PassesOwn (model X.prog X.w) X.A X.env X.xe) (hc : X.calm = true) (hi : DI X K tg iter wi fi) (hg : DG X K tg gt is fg) (hb : DSs X K body tb g)
    (hs : ∀ x, foldedSetIterable iter X.env x = pure x := by intro _; rfl) : DS X K (.For tg iter body [] pos) (tFor wi gt tb) (sFor fi is fg g) := ⟨ps_for hp hc hi.pi hg.pg hb.ps hs, ev_for hi.ev hg.ev hb.ev⟩
theorem ds_while {c : Expr} {body : List Stmt} {tc : TT} {tb : TS} {fc : Sl → Option Bool} {g : SE → Option Out} (n : Nat) (hp : PassesOwn (model X.prog X.w) X.A X.env X.xe) (hc : DT X K c tc fc) (hb : DSs X K body tb g) : DS X K (.While c body [] pos) (tWhile tc tb) (whileD fc g n) := ⟨ps_while hp hc.pt hb.ps, ev_while hc.ev hb.ev n⟩
end

/-! ### defs -/
def runD (n m : Nat) (g : SE → Option Out) (ds : List D) : Option D := if ds.length = n then match g ⟨ds.map some ++ List.replicate (m - n) none, none⟩ with
  | some (.rt d) => some d
  | _ => none else none
/-- a def of the text stands at the top under its name -/
structure Has (K : PySem.W.Frag) (mg : Str → Option Value) (x : Str) (st : Stmt) : Prop where
  ex : ∃ (f : Addr) (fd : FuncData), mg x = some (.ref f) ∧ Fun K x x st f fd
theorem slots_start {H : Hp} {N : List Str} {n : Nat} {vs : List V} {ds : List D} (r : RepL K H vs ds) (hn : ds.length = n) : Slots K H (ds.map some ++ List.replicate (N.length - n) none) (L2.start N vs) := by
  have hl := r.length
  refine ⟨?_, fun i d h => ?_⟩
  · unfold L2.start
    simp only [List.length_append, List.length_map, List.length_replicate]
    omega
  · by_cases hi : i < ds.length
    · rw [List.getElem?_append_left (by rw [List.length_map]; exact hi)] at h
      have h' : ds[i]? = some d := by
        rw [List.getElem?_map] at h
        cases c : ds[i]? with
        | none => rw [c] at h; cases h
        | some z => rw [c] at h; cases h; rfl
      obtain ⟨v, e, q⟩ := r.get h'
      refine ⟨v, ?_, q⟩
      unfold L2.start
      rw [List.getElem?_append_left (by rw [List.length_map, hl]; exact hi), List.getElem?_map, e]
      rfl
    · rw [List.getElem?_append_right (by rw [List.length_map]; omega), List.getElem?_replicate] at h
      split at h <;> cases h
section
variable {P : Program} {w : World} {mg : Str → Option Value} {base : Heap}
/-- a def that stands at f keeps its promise -/
theorem fn_def {x : Str} {st : Stmt} {N ps : List Str} {k n : Nat} {g : SE → Option Out} {f : Addr} {fd : FuncData} (F : Fun K x x st f fd) (S : FnScope N ps (defScope st)) (hn : ps.length = n)
    (body : ∀ (f : Addr) (cdv : Value) (A : Around) (outer : List Env) (s : Shared) (H : Hp) (E : XK), Room k (A.deeper (envOfC x (defScope st) s.heap.objs.size f cdv)) → ∃ t, DSs (cxOf CX0 P w K mg base N x (defScope st) f cdv A outer s H E).nox K (defBody st) t g) :
    FnOk P w K mg base CX0 (k + 1) f fd ps (spD K n (runD n N.length g)) := by
  refine F.ok S (fun vs H Q E h => ?_) fun cdv A outer s H vs Q E hr h => ?_
  · obtain ⟨O, ds, d, h1, h2, h3, _⟩ := h
    rw [h3.length, h1, hn]
  · obtain ⟨t, hd⟩ := body f cdv A outer s H E hr
    obtain ⟨O, ds, d, h1, h2, h3, h4, h5⟩ := h
    refine ⟨t, hd.ps, ?_⟩
    unfold runD at h4
    rw [if_pos h1] at h4
    cases c : g ⟨ds.map some ++ List.replicate (N.length - n) none, none⟩ with
    | none => rw [c] at h4; cases h4
    | some out =>
      rw [c] at h4
      cases out with
      | nx e => cases h4
      | rt d' =>
        cases h4
        exact hd.ev _ _ c O H (L2.start N vs) H _ ⟨Same.refl H, h2, slots_start h3 h1⟩ h5
theorem ok_def {x : Str} {st : Stmt} {N ps : List Str} {k n : Nat} {g : SE → Option Out} (has : Has K mg x st) (S : FnScope N ps (defScope st)) (hn : ps.length = n)
    (hb : ∀ (kV doc pm : Value) (an : Option Addr) (cdv ct : Value) (us : List Value), us.length = ps.length → bindArgs (PySem.W.fnOf x x (defArgs st) (defBody st) (defScope st) .none kV doc pm an cdv ct) ⟨us, []⟩ = pure (ps.zip us))
    (body : ∀ (f : Addr) (cdv : Value) (A : Around) (outer : List Env) (s : Shared) (H : Hp) (E : XK), Room k (A.deeper (envOfC x (defScope st) s.heap.objs.size f cdv)) → ∃ t, DSs (cxOf CX0 P w K mg base N x (defScope st) f cdv A outer s H E).nox K (defBody st) t g) :
    Ok P w K mg base x (k + 1) n (runD n N.length g) := by
  obtain ⟨f, fd, hm, F⟩ := has.ex
  exact ⟨f, fd, ps, hm, F.kp, F.binds hb, fn_def F S hn body⟩
/-! ### the top's facts -/
theorem has_mk {h : Heap} {x : Str} {st : Stmt} {f : Addr} {oc : Value} {od an : Option Addr} {osl : Array (Option Value)} {kV doc pm cdv ct : Value} (X : K.In h) (G : h.Ns mainGlobals mg) (a : PySem.W.nsIn K mainGlobals x = some (some (.ref f)))
    (l : K.lookup f = some ⟨oc, od, .func (PySem.W.fnOf x x (defArgs st) (defBody st) (defScope st) .none kV doc pm an cdv ct), osl⟩) (c : PySem.W.codeIn K cdv x = true) (k : PySem.W.keepIn K (.ref f) = true) : Has K mg x st :=
  ⟨f, _, PySem.W.mg_of X G a, fun_mk l c k⟩
theorem int_mk {h : Heap} {x : Str} {i : Int} {t : Tok} (X : K.In h) (G : h.Ns mainGlobals mg) (a : PySem.W.nsIn K mainGlobals x = some (some (.int i t))) : ∃ t, mg x = some (Value.int i t) := ⟨t, PySem.W.mg_of X G a⟩
inductive IntsOf : List Int → List Value → Prop
  | nil : IntsOf [] []
  | cons {i : Int} {t : Tok} {is : List Int} {vs : List Value} : IntsOf is vs → IntsOf (i :: is) (.int i t :: vs)
theorem IntsOf.vals : ∀ {is : List Int} {vs : List Value}, IntsOf is vs → Vals (is.map V.int) vs
  | _, _, .nil => .nil
  | _, _, .cons r => .cons ⟨_, rfl⟩ r.vals
theorem tup_mk {h : Heap} {x : Str} {a : Addr} {its : List Value} {ns : List Int} {n : Nat} {dd : Option Addr} {sl : Array (Option Value)} (X : K.In h) (G : h.Ns mainGlobals mg) (m : PySem.W.nsIn K mainGlobals x = some (some (.ref a)))
    (l : K.lookup a = some ⟨.type "tuple", dd, .seq its.toArray n, sl⟩) (r : IntsOf ns its) (hl : ns.length ≤ 1000) : ∃ a, mg x = some (Value.ref a) ∧ ∀ H, SqT K H a (ns.map V.int) := by
  refine ⟨a, PySem.W.mg_of X G m, fun H => .inr ⟨_, its.toArray, n, l, rfl, rfl, ?_, ?_⟩⟩
  · have e := r.vals.length
    rw [List.length_map] at e
    rw [List.size_toArray, ← e]
    exact small_line hl
  · simpa using r.vals
end
end Sb
end
section
set_option Elab.async false
set_option linter.all false
set_option maxRecDepth 100000
set_option maxHeartbeats 4000000
namespace Sb
open PySem PySem.Spec PyProof.Rows L2
variable {K : PySem.W.Frag}
section
variable {X : Cx} {ex : Expr} {te : TE} {f : Sl → Option D} {pos : Pos}
theorem de_glob {x : Str} {i : Int} (hg : Gl X x) (hm : ∃ t, X.mg x = some (Value.int i t)) (kk : X.K = K) (hd : (x == ("__debug__" : Str)) = false := by decide) : DE X K (.Name x pos) (tC (.int i)) (fC (.int i)) := by
  obtain ⟨t, h⟩ := hm
  exact de_con (pe_glob hg h ⟨_, rfl⟩ hd) kk fun _ => .int i
theorem de_globT {x : Str} {a : Addr} {ns : List Int} (hg : Gl X x) (hm : X.mg x = some (Value.ref a)) (h : ∀ H, SqT K H a (ns.map V.int)) (kk : X.K = K) (hd : (x == ("__debug__" : Str)) = false := by decide) : DE X K (.Name x pos) (tC (.ref a)) (fC (.tup (ns.map D.int))) :=
  de_con (pe_glob hg hm rfl hd) kk fun H => .tup (h H) (RepL.ints ns)
theorem ds_set {i : Nat} {x : Str} {pos' : Pos} (hN : X.N.Nodup) (hi : X.N[i]? = some x) (hx : Loc X.env.scope x) (he : DE X K ex te f) (hs : swapsWith ex (some (.Name x pos')) pos.line X.env = pure false := by rfl) (hf : X.fn x = true ∨ X.env.scope.names.lookup x = some .local := by first | exact .inl rfl | exact .inr rfl | assumption) :
    DS X K (.Assign [.Name x pos'] ex pos) (tAsg te (gName i)) (sAsg f [i] (tgN i)) :=
  ⟨ps_set hN hi hx he.pe hs hf, ev_asg he.ev (dg_name (pg_name (X := X) (pos := pos') hN hi hx hf)).ev⟩
theorem ds_ownN {i : Nat} {x : Str} {es : List Expr} {ta : TA} {fa : Sl → Option (List D)} {pos' lp : Pos} (hN : X.N.Nodup) (hi : X.N[i]? = some x) (hx : Loc X.env.scope x) (ha : DA X K es ta fa) (hs : swapsWith (.List es lp) (some (.Name x pos')) pos.line X.env = pure false := by rfl) (hf : X.fn x = true ∨ X.env.scope.names.lookup x = some .local := by first | exact .inl rfl | exact .inr rfl | assumption) :
    DS X K (.Assign [.Name x pos'] (.List es lp) pos) (tAsg (tLst ta) (gName i)) (sOwn fa i) := ds_own ha (ps_set hN hi hx (pe_lst ha.pa) hs hf)
theorem ds_setLc {i : Nat} {y : Str} {py : Pos} {elt tg iter : Expr} {ifs : List Expr} {scope : Scope} {own : List (Str × Nat)} {spos : Pos} {wi : TI} {g : TG} {tt : TT} {te' : TE} {fi : Sl → Option (List D)} {fg : D → Sl → Option Sl} {ft : Sl → Option Bool} {fe : Sl → Option D} {is : List Nat} (hc : X.calm = true) (hN : X.N.Nodup) (kk : X.K = K)
    (hy : X.N[i]? = some y) (hyl : X.env.scope.names.lookup y = some .local) (hsw : swapsWith (.ListComp elt [⟨tg, iter, ifs, 0⟩] scope pos) (some (.Name y py)) spos.line X.env = pure true)
    (hi : DI X K tg iter wi fi) (ok : BlkOk X.N X.env.scope scope own)
    (hg : ∀ (s : Shared) (H : Hp) (C : Addr) (cl : List (Str × Addr)) (fp : List Addr), DG (X.blk s H scope (compEnvC scope cl C X.env) fp) K tg g is fg) (ht : ∀ (s : Shared) (H : Hp) (C : Addr) (cl : List (Str × Addr)) (fp : List Addr), PTs (X.blk s H scope (compEnvC scope cl C X.env) fp) ifs tt ∧ EvT K tt ft)
    (he : ∀ (s : Shared) (H : Hp) (C : Addr) (cl : List (Str × Addr)) (fp : List Addr), DE (X.blk s H scope (compEnvC scope cl C X.env) fp) K elt te' fe) (hsub : ∀ i ∈ is, i ∈ own.map (·.2)) (hs : ∀ x, foldedSetIterable iter X.env x = pure x := by intro _; rfl) :
    DS X K (.Assign [.Name y py] (.ListComp elt [⟨tg, iter, ifs, 0⟩] scope pos) spos) (tAsg (tLc wi g tt te' (own.map (·.2))) (gName i)) (sAsg (fLc fi fg ft fe (own.map (·.2))) [i] (tgN i)) :=
  ⟨ps_setLc hc hN hy hyl hsw hi.pi ok (fun s H C cl fp => (hg s H C cl fp).pg) (fun s H C cl fp => (ht s H C cl fp).1) (fun s H C cl fp => (he s H C cl fp).pe) hs,
    ev_asg (ev_lc hi.ev (hg {} (fun _ => none) 0 [] []).ev (ht {} (fun _ => none) 0 [] []).2 (he {} (fun _ => none) 0 [] []).ev hsub) (dg_name (pg_name (X := X) (pos := py) hN hy (.inl hyl) (.inr hyl))).ev⟩
theorem pts_yes : PTs X [] tYes ∧ EvT K tYes fYes := ⟨pts_nil, evt_yes⟩
theorem pts_d {c : Expr} {t : TT} {fc : Sl → Option Bool} (h : DT X K c t fc) : PTs X [c] t ∧ EvT K t fc := ⟨pts_one h.pt, h.ev⟩
variable {o : Expr} {apos cpos : Pos} {i : Nat}
theorem ds_app (ho : PE X o (tVar i)) (he : DE X K ex te f) (hbase : attributeBase o "append" X.env (eval o X.env) = eval o X.env := by rfl)
    (hfew : ((backTo cpos (starEach [ex] X.env)).all (fun x => !x.1) && (backToKw cpos (keywordEach [] X.env)).all (fun x => x.1.isSome)
      && decide (([ex] : List Expr).length + ([] : List Keyword).length + (if ([] : List Keyword).isEmpty then 0 else 1) < 30)) = true := by rfl)
    (hline : (apos.endLine == cpos.line) = true := by rfl) (hs : starEach [ex] X.env = (false, eval ex X.env) :: starEach [] X.env := by rfl) (hplain : (backTo cpos (starEach [] X.env)).any (·.1) = false := by rfl)
    (hsw : swapsWith (.Call (.Attribute o "append" apos) [ex] [] cpos) none pos.line X.env = pure false := by rfl) : DS X K (.Expr (.Call (.Attribute o "append" apos) [ex] [] cpos) pos) (tDrop (tBM K "list" rAppend (tVar i) (tCons te tNil))) (sApp i f) := by
  refine ⟨?_, ev_app he.ev⟩
  have k := he.kk
  subst k
  exact ps_expr (pe_bm PySem.F.plainAttrs_list PySem.F.slot_list_append PySem.F.type_list_append mt_append ho (pa_cons he.pe pa_nil hs) hbase hfew hline hs hplain) hsw
theorem ds_extL (ho : PE X o (tVar i)) (he : DE X K ex te f) (hbase : attributeBase o "extend" X.env (eval o X.env) = eval o X.env := by rfl)
    (hfew : ((backTo cpos (starEach [ex] X.env)).all (fun x => !x.1) && (backToKw cpos (keywordEach [] X.env)).all (fun x => x.1.isSome)
      && decide (([ex] : List Expr).length + ([] : List Keyword).length + (if ([] : List Keyword).isEmpty then 0 else 1) < 30)) = true := by rfl)
    (hline : (apos.endLine == cpos.line) = true := by rfl) (hs : starEach [ex] X.env = (false, eval ex X.env) :: starEach [] X.env := by rfl) (hplain : (backTo cpos (starEach [] X.env)).any (·.1) = false := by rfl)
    (hsw : swapsWith (.Call (.Attribute o "extend" apos) [ex] [] cpos) none pos.line X.env = pure false := by rfl) : DS X K (.Expr (.Call (.Attribute o "extend" apos) [ex] [] cpos) pos) (tDrop (tBM K "list" rExtend (tVar i) (tCons te tNil))) (sExtL i f) := by
  refine ⟨?_, ev_extL he.ev⟩
  have k := he.kk
  subst k
  exact ps_expr (pe_bm PySem.F.plainAttrs_list PySem.F.slot_list_extend PySem.F.type_list_extend mt_extend ho (pa_cons he.pe pa_nil hs) hbase hfew hline hs hplain) hsw
theorem ds_extT (ho : PE X o (tVar i)) (he : DE X K ex te f) (hbase : attributeBase o "extend" X.env (eval o X.env) = eval o X.env := by rfl)
    (hfew : ((backTo cpos (starEach [ex] X.env)).all (fun x => !x.1) && (backToKw cpos (keywordEach [] X.env)).all (fun x => x.1.isSome)
      && decide (([ex] : List Expr).length + ([] : List Keyword).length + (if ([] : List Keyword).isEmpty then 0 else 1) < 30)) = true := by rfl)
    (hline : (apos.endLine == cpos.line) = true := by rfl) (hs : starEach [ex] X.env = (false, eval ex X.env) :: starEach [] X.env := by rfl) (hplain : (backTo cpos (starEach [] X.env)).any (·.1) = false := by rfl)
    (hsw : swapsWith (.Call (.Attribute o "extend" apos) [ex] [] cpos) none pos.line X.env = pure false := by rfl) : DS X K (.Expr (.Call (.Attribute o "extend" apos) [ex] [] cpos) pos) (tDrop (tBM K "list" (rExtendT K) (tVar i) (tCons te tNil))) (sExtT i f) := by
  refine ⟨?_, ev_extT he.ev⟩
  have k := he.kk
  subst k
  exact ps_expr (pe_bm PySem.F.plainAttrs_list PySem.F.slot_list_extend PySem.F.type_list_extend mt_extendT ho (pa_cons he.pe pa_nil hs) hbase hfew hline hs hplain) hsw
end
end Sb
end
section
set_option Elab.async false
set_option linter.all false
set_option maxRecDepth 100000
set_option maxHeartbeats 4000000
/-! ### what each def comes to (printed by gen.py) -/
namespace Sb
/-- is_value (slots: value, kind, content) -/
def g_is_value : SE → Option Out :=
  (sSeq (sAsg (fVar 0) [1, 2] (tgT [1, 2]))
    (sSeq (sIf (fT (f2 gEq (fVar 1) (fC (.int 0)))) (sRet (f2 gEq (fVar 2) (fC (.int 0)))) sNext)
    (sSeq (sIf (fT (f2 gEq (fVar 1) (fC (.int 1)))) (sRet (f3 gLe gLe (fC (.int 0)) (fVar 2) (fC (.int 1)))) sNext)
    (sSeq (sIf (fT (f2 gEq (fVar 1) (fC (.int 2)))) (sRet (f3 gLe gLe (f1 gNeg (fC (.int 1000000000))) (fVar 2) (fC (.int 1000000000)))) sNext)
    (sSeq (sIf (fT (f2 gEq (fVar 1) (fC (.int 3)))) (sRet (f3 gLe gLe (fC (.int 0)) (fVar 2) (fC (.int 25)))) sNext)
    (sSeq (sIf (fT (f2 gEq (fVar 1) (fC (.int 4)))) (sRet (f3 gLe gLe (fC (.int 0)) (fVar 2) (fC (.int 39)))) sNext)
    (sRet (fAndV (f2 gEq (fVar 1) (fC (.int 5))) (f3 gLe gLe (fC (.int 0)) (fVar 2) (fC (.int 9)))))))))))
def is_value_D : List D → Option D := runD 1 3 g_is_value
/-- constant (slots: value, kind, content) -/
def g_constant : SE → Option Out :=
  (sSeq (sAsg (fVar 0) [1, 2] (tgT [1, 2]))
    (sRet (fTup (fCons (fC (.int 0)) (fCons (fVar 1) (fCons (fVar 2) fNil))))))
def constant_D : List D → Option D := runD 1 3 g_constant
/-- has (slots: kind, value) -/
def g_has : SE → Option Out :=
  (sSeq (sIf (fT (f2 gEq (f2 gIx (fVar 0) (fC (.int 0))) (fC (.int 0)))) (sRet (f2 gEq (fVar 0) (fCall 1 constant_D (fCons (fVar 1) fNil)))) sNext)
    (sRet (fOrV (f2 gEq (f2 gIx (fVar 0) (fC (.int 0))) (fC (.int 6))) (f2 gEq (f2 gIx (fVar 0) (fC (.int 0))) (f2 gIx (fVar 1) (fC (.int 0)))))))
def has_D : List D → Option D := runD 2 2 g_has
/-- joined (slots: kind, value) -/
def g_joined : SE → Option Out :=
  (sSeq (sIf (fT (fCall 2 has_D (fCons (fVar 0) (fCons (fVar 1) fNil)))) (sRet (fVar 0)) sNext)
    (sSeq (sIf (fAnd (fT (f2 gEq (f2 gIx (fVar 0) (fC (.int 0))) (fC (.int 0)))) (fT (f2 gEq (f2 gIx (fVar 0) (fC (.int 1))) (f2 gIx (fVar 1) (fC (.int 0)))))) (sRet (fTup (fCons (f2 gIx (fVar 1) (fC (.int 0))) fNil))) sNext)
    (sRet (fTup (fCons (fC (.int 6)) fNil)))))
def joined_D : List D → Option D := runD 2 2 g_joined
/-- is_name (slots: number) -/
def g_is_name : SE → Option Out :=
  (sRet (f3 gLe gLe (fC (.int 0)) (fVar 0) (fC (.int 25))))
def is_name_D : List D → Option D := runD 1 1 g_is_name
/-- is_zero_or_one (slots: number) -/
def g_is_zero_or_one : SE → Option Out :=
  (sRet (f3 gLe gLe (fC (.int 0)) (fVar 0) (fC (.int 1))))
def is_zero_or_one_D : List D → Option D := runD 1 1 g_is_zero_or_one
/-- is_field (slots: field, name, is_reader, value) -/
def g_is_field : SE → Option Out :=
  (sSeq (sAsg (fVar 0) [1, 2, 3] (tgT [1, 2, 3]))
    (sRet (fAndV (fCall 1 is_name_D (fCons (fVar 1) fNil)) (fAndV (fCall 1 is_zero_or_one_D (fCons (fVar 2) fNil)) (fCall 1 is_value_D (fCons (fVar 3) fNil))))))
def is_field_D : List D → Option D := runD 1 4 g_is_field
/-- field_at (slots: numbers, at) -/
def g_field_at : SE → Option Out :=
  (sRet (fTup (fCons (f2 gIx (fVar 0) (fVar 1)) (fCons (f2 gIx (fVar 0) (f2 gAdd (fVar 1) (fC (.int 1)))) (fCons (fTup (fCons (f2 gIx (fVar 0) (f2 gAdd (fVar 1) (fC (.int 2)))) (fCons (f2 gIx (fVar 0) (f2 gAdd (fVar 1) (fC (.int 3)))) fNil))) fNil)))))
def field_at_D : List D → Option D := runD 2 2 g_field_at
/-- listed_fields (slots: numbers, at) -/
def g_listed_fields : SE → Option Out :=
  (sRet (fB gTuple (fCons (fLc (iR3 (fCons (fC (.int 0)) (fCons (fB gLen (fCons (fVar 0) fNil)) (fCons (fC (.int 4)) fNil)))) (tgN 1) fYes (fCall 2 field_at_D (fCons (fVar 0) (fCons (fVar 1) fNil))) [1]) fNil)))
def listed_fields_D : List D → Option D := runD 1 2 g_listed_fields
/-- is_list_of_fields (slots: numbers, field) -/
def g_is_list_of_fields : SE → Option Out :=
  (sSeq (sIf (fT (f2 gNe (f2 gMod (fB gLen (fCons (fVar 0) fNil)) (fC (.int 4))) (fC (.int 0)))) (sRet (fC (.bl false))) sNext)
    (sRet (fB gAll (fCons (fLc (iTp (fCall 1 listed_fields_D (fCons (fVar 0) fNil))) (tgN 1) fYes (fCall 1 is_field_D (fCons (fVar 1) fNil)) [1]) fNil))))
def is_list_of_fields_D : List D → Option D := runD 1 2 g_is_list_of_fields
/-- field_place (slots: fields, name, place, field) -/
def g_field_place : SE → Option Out :=
  (sSeq (sFor (iEn (fCons (fVar 0) fNil)) [2, 3] (tgT [2, 3]) (sIf (fT (f2 gEq (f2 gIx (fVar 3) (fC (.int 0))) (fVar 1))) (sRet (fVar 2)) sNext))
    (sRet (f1 gNeg (fC (.int 1)))))
def field_place_D : List D → Option D := runD 2 4 g_field_place
/-- has_name_twice (slots: fields, place, field) -/
def g_has_name_twice : SE → Option Out :=
  (sSeq (sFor (iEn (fCons (fVar 0) fNil)) [1, 2] (tgT [1, 2]) (sIf (fT (f2 gLt (fCall 2 field_place_D (fCons (fVar 0) (fCons (f2 gIx (fVar 2) (fC (.int 0))) fNil))) (fVar 1))) (sRet (fC (.bl true))) sNext))
    (sRet (fC (.bl false))))
def has_name_twice_D : List D → Option D := runD 1 3 g_has_name_twice
/-- told_field (slots: field, name, is_reader, value) -/
def g_told_field : SE → Option Out :=
  (sSeq (sAsg (fVar 0) [1, 2, 3] (tgT [1, 2, 3]))
    (sRet (fLst (fCons (fVar 1) (fCons (fVar 2) (fCons (f2 gIx (fVar 3) (fC (.int 0))) (fCons (f2 gIx (fVar 3) (fC (.int 1))) fNil)))))))
def told_field_D : List D → Option D := runD 1 4 g_told_field
/-- bare_shape (slots: prototype) -/
def g_bare_shape : SE → Option Out :=
  (sRet (fTup (fCons (fVar 0) (fCons (fTup fNil) fNil))))
def bare_shape_D : List D → Option D := runD 1 1 g_bare_shape
/-- constant_shape (slots: prototype, fields, slots, name, is_reader, value) -/
def g_constant_shape : SE → Option Out :=
  (sSeq (sAsg (fB gTuple (fCons (fLc (iTp (fVar 1)) (tgT [3, 4, 5]) fYes (fTup (fCons (fVar 3) (fCons (fVar 4) (fCons (fCall 1 constant_D (fCons (fVar 5) fNil)) fNil)))) [3, 4, 5]) fNil)) [2] (tgN 2))
    (sRet (fTup (fCons (fVar 0) (fCons (fVar 2) fNil)))))
def constant_shape_D : List D → Option D := runD 2 6 g_constant_shape
/-- with_slot (slots: shape, slot, prototype, slots) -/
def g_with_slot : SE → Option Out :=
  (sSeq (sAsg (fVar 0) [2, 3] (tgT [2, 3]))
    (sRet (fTup (fCons (fVar 2) (fCons (f2 gAdd (fVar 3) (fTup (fCons (fVar 1) fNil))) fNil)))))
def with_slot_D : List D → Option D := runD 2 4 g_with_slot
/-- with_other_slot (slots: shape, place, slot, prototype, slots) -/
def g_with_other_slot : SE → Option Out :=
  (sSeq (sAsg (fVar 0) [3, 4] (tgT [3, 4]))
    (sRet (fTup (fCons (fVar 3) (fCons (f2 gAdd (f2 gAdd (fSl (fVar 4) pNone (pSome (fVar 1))) (fTup (fCons (fVar 2) fNil))) (fSl (fVar 4) (pSome (f2 gAdd (fVar 1) (fC (.int 1)))) pNone)) fNil)))))
def with_other_slot_D : List D → Option D := runD 3 5 g_with_other_slot
/-- up_to (slots: shape, place, prototype, slots) -/
def g_up_to : SE → Option Out :=
  (sSeq (sAsg (fVar 0) [2, 3] (tgT [2, 3]))
    (sRet (fTup (fCons (fVar 2) (fCons (fSl (fVar 3) pNone (pSome (fVar 1))) fNil)))))
def up_to_D : List D → Option D := runD 2 4 g_up_to
/-- with_prototype (slots: shape, prototype) -/
def g_with_prototype : SE → Option Out :=
  (sRet (fTup (fCons (fVar 1) (fCons (f2 gIx (fVar 0) (fC (.int 1))) fNil))))
def with_prototype_D : List D → Option D := runD 2 2 g_with_prototype
/-- has_values (slots: shape, fields, slot, field) -/
def g_has_values : SE → Option Out :=
  (sRet (fB gAll (fCons (fLc (iZp (fCons (f2 gIx (fVar 0) (fC (.int 1))) (fCons (fVar 1) fNil))) (tgT [2, 3]) fYes (fCall 2 has_D (fCons (f2 gIx (fVar 2) (fC (.int 2))) (fCons (f2 gIx (fVar 3) (fC (.int 2))) fNil))) [2, 3]) fNil)))
def has_values_D : List D → Option D := runD 2 4 g_has_values
/-- told_shape (slots: shape, prototype, slots, told, name, is_reader, kind) -/
def g_told_shape : SE → Option Out :=
  (sSeq (sAsg (fVar 0) [1, 2] (tgT [1, 2]))
    (sSeq (sOwn (fCons (fVar 1) (fCons (fB gLen (fCons (fVar 2) fNil)) fNil)) 3)
    (sSeq (sFor (iTp (fVar 2)) [4, 5, 6] (tgT [4, 5, 6]) (sSeq (sApp 3 (fVar 4))
    (sSeq (sApp 3 (fVar 5))
    (sExtT 3 (fVar 6)))))
    (sRet (fVar 3)))))
def told_shape_D : List D → Option D := runD 1 7 g_told_shape
/-- told_layout (slots: layout) -/
def g_told_layout : SE → Option Out :=
  (sSeq (sIf (fT (f2 gIs (fVar 0) (fC .non))) (sRet (fLst (fCons (fC (.int 0)) fNil))) sNext)
    (sRet (f2 gAdd (fLst (fCons (fC (.int 1)) fNil)) (fCall 1 told_shape_D (fCons (fVar 0) fNil)))))
def told_layout_D : List D → Option D := runD 1 1 g_told_layout
/-- how_many_shapes (slots: laid, seen, layout) -/
def g_how_many_shapes : SE → Option Out :=
  (sSeq (sOwn fNil 1)
    (sSeq (sFor (iLst (fVar 0)) [2] (tgN 2) (sIf (fAnd (fT (f2 gIsNot (fVar 2) (fC .non))) (fT (f2 gNotIn (fVar 2) (fVar 1)))) (sApp 1 (fVar 2)) sNext))
    (sRet (fB gLen (fCons (fVar 1) fNil)))))
def how_many_shapes_D : List D → Option D := runD 1 3 g_how_many_shapes
/-- is_head (slots: claim, at) -/
def g_is_head : SE → Option Out :=
  (sRet (fAndV (f2 gLt (f2 gAdd (fVar 1) (fC (.int 1))) (fB gLen (fCons (fVar 0) fNil))) (fAndV (f3 gLe gLe (f1 gNeg (fC (.int 1))) (f2 gIx (fVar 0) (fVar 1)) (fC (.int 39))) (f3 gLe gLe (fC (.int 0)) (f2 gIx (fVar 0) (f2 gAdd (fVar 1) (fC (.int 1)))) (fC (.int 8))))))
def is_head_D : List D → Option D := runD 2 2 g_is_head
/-- kind_end (slots: claim, at) -/
def g_kind_end : SE → Option Out :=
  (sSeq (sIf (fAnd (fT (f2 gLt (fVar 1) (fB gLen (fCons (fVar 0) fNil)))) (fT (f3 gLe gLe (fC (.int 1)) (f2 gIx (fVar 0) (fVar 1)) (fC (.int 6))))) (sRet (f2 gAdd (fVar 1) (fC (.int 1)))) sNext)
    (sSeq (sIf (fAnd (fT (f2 gLt (f2 gAdd (fVar 1) (fC (.int 2))) (fB gLen (fCons (fVar 0) fNil)))) (fAnd (fT (f2 gEq (f2 gIx (fVar 0) (fVar 1)) (fC (.int 0)))) (fT (fCall 1 is_value_D (fCons (fTup (fCons (f2 gIx (fVar 0) (f2 gAdd (fVar 1) (fC (.int 1)))) (fCons (f2 gIx (fVar 0) (f2 gAdd (fVar 1) (fC (.int 2)))) fNil))) fNil))))) (sRet (f2 gAdd (fVar 1) (fC (.int 3)))) sNext)
    (sRet (f1 gNeg (fC (.int 1))))))
def kind_end_D : List D → Option D := runD 2 2 g_kind_end
/-- slot_end (slots: claim, at, end) -/
def g_slot_end : SE → Option Out :=
  (sSeq (sIf (fOr (fT (f2 gGe (f2 gAdd (fVar 1) (fC (.int 1))) (fB gLen (fCons (fVar 0) fNil)))) (fOr (fNot (fT (fCall 1 is_name_D (fCons (f2 gIx (fVar 0) (fVar 1)) fNil)))) (fNot (fT (fCall 1 is_zero_or_one_D (fCons (f2 gIx (fVar 0) (f2 gAdd (fVar 1) (fC (.int 1)))) fNil)))))) (sRet (f1 gNeg (fC (.int 1)))) sNext)
    (sSeq (sAsg (fCall 2 kind_end_D (fCons (fVar 0) (fCons (f2 gAdd (fVar 1) (fC (.int 2))) fNil))) [2] (tgN 2))
    (sSeq (sIf (fOr (fT (f2 gLt (fVar 2) (fC (.int 0)))) (fOr (fT (f2 gGe (f2 gAdd (fVar 2) (fC (.int 1))) (fB gLen (fCons (fVar 0) fNil)))) (fNot (fT (fCall 1 is_value_D (fCons (fTup (fCons (f2 gIx (fVar 0) (fVar 2)) (fCons (f2 gIx (fVar 0) (f2 gAdd (fVar 2) (fC (.int 1)))) fNil))) fNil)))))) (sRet (f1 gNeg (fC (.int 1)))) sNext)
    (sRet (f2 gAdd (fVar 2) (fC (.int 2)))))))
def slot_end_D : List D → Option D := runD 2 3 g_slot_end
/-- claimed_slot (slots: claim, at, end) -/
def g_claimed_slot : SE → Option Out :=
  (sRet (fTup (fCons (f2 gIx (fVar 0) (fVar 1)) (fCons (f2 gIx (fVar 0) (f2 gAdd (fVar 1) (fC (.int 1)))) (fCons (fB gTuple (fCons (fSl (fVar 0) (pSome (f2 gAdd (fVar 1) (fC (.int 2)))) (pSome (f2 gSub (fVar 2) (fC (.int 2))))) fNil)) fNil)))))
def claimed_slot_D : List D → Option D := runD 3 3 g_claimed_slot
/-- claimed_field (slots: claim, at, end) -/
def g_claimed_field : SE → Option Out :=
  (sRet (fTup (fCons (f2 gIx (fVar 0) (fVar 1)) (fCons (f2 gIx (fVar 0) (f2 gAdd (fVar 1) (fC (.int 1)))) (fCons (fTup (fCons (f2 gIx (fVar 0) (f2 gSub (fVar 2) (fC (.int 2)))) (fCons (f2 gIx (fVar 0) (f2 gSub (fVar 2) (fC (.int 1)))) fNil))) fNil)))))
def claimed_field_D : List D → Option D := runD 3 3 g_claimed_field
/-- claimed_thing (slots: claim, at, fields, slots, end, turn, begin) -/
def g_claimed_thing : SE → Option Out :=
  (sSeq (sIf (fNot (fT (fCall 2 is_head_D (fCons (fVar 0) (fCons (fVar 1) fNil))))) (sRet (fTup (fCons (f1 gNeg (fC (.int 1))) (fCons (fC .non) fNil)))) sNext)
    (sSeq (sAsg (fTup fNil) [2] (tgN 2))
    (sSeq (sAsg (fTup fNil) [3] (tgN 3))
    (sSeq (sAsg (f2 gAdd (fVar 1) (fC (.int 2))) [4] (tgN 4))
    (sSeq (sFor (iR1 (fCons (f2 gIx (fVar 0) (f2 gAdd (fVar 1) (fC (.int 1)))) fNil)) [5] (tgN 5) (sSeq (sAsg (fVar 4) [6] (tgN 6))
    (sSeq (sAsg (fCall 2 slot_end_D (fCons (fVar 0) (fCons (fVar 6) fNil))) [4] (tgN 4))
    (sSeq (sIf (fT (f2 gLt (fVar 4) (fC (.int 0)))) (sRet (fTup (fCons (f1 gNeg (fC (.int 1))) (fCons (fC .non) fNil)))) sNext)
    (sSeq (sAsg (f2 gAdd (fVar 2) (fTup (fCons (fCall 3 claimed_field_D (fCons (fVar 0) (fCons (fVar 6) (fCons (fVar 4) fNil)))) fNil))) [2] (tgN 2))
    (sAsg (f2 gAdd (fVar 3) (fTup (fCons (fCall 3 claimed_slot_D (fCons (fVar 0) (fCons (fVar 6) (fCons (fVar 4) fNil)))) fNil))) [3] (tgN 3)))))))
    (sRet (fTup (fCons (fVar 4) (fCons (fTup (fCons (f2 gIx (fVar 0) (fVar 1)) (fCons (fVar 2) (fCons (fTup (fCons (f2 gIx (fVar 0) (fVar 1)) (fCons (fVar 3) fNil))) fNil)))) fNil)))))))))
def claimed_thing_D : List D → Option D := runD 2 7 g_claimed_thing
/-- claimed_things (slots: claim, count, claimed, at, turn, thing) -/
def g_claimed_things : SE → Option Out :=
  (sSeq (sAsg (fTup fNil) [2] (tgN 2))
    (sSeq (sAsg (fC (.int 0)) [3] (tgN 3))
    (sSeq (sFor (iR1 (fCons (fVar 1) fNil)) [4] (tgN 4) (sSeq (sAsg (fCall 2 claimed_thing_D (fCons (fVar 0) (fCons (fVar 3) fNil))) [3, 5] (tgT [3, 5]))
    (sSeq (sIf (fT (f2 gLt (fVar 3) (fC (.int 0)))) (sRet (fC .non)) sNext)
    (sAsg (f2 gAdd (fVar 2) (fTup (fCons (fVar 5) fNil))) [2] (tgN 2)))))
    (sSeq (sIf (fT (f2 gLt (fVar 3) (fB gLen (fCons (fVar 0) fNil)))) (sRet (fC .non)) sNext)
    (sRet (fVar 2))))))
def claimed_things_D : List D → Option D := runD 2 6 g_claimed_things
/-- fault_of (slots: claimed, thing, prototype, fields, shape) -/
def g_fault_of : SE → Option Out :=
  (sSeq (sAsg (fVar 0) [2, 3, 4] (tgT [2, 3, 4]))
    (sSeq (sIf (fOr (fNot (fT (fCall 2 has_values_D (fCons (fVar 4) (fCons (fVar 3) fNil))))) (fT (fCall 1 has_name_twice_D (fCons (fVar 3) fNil)))) (sRet (fC (.int 1))) sNext)
    (sSeq (sIf (fOr (fT (f2 gNe (fVar 2) (f2 gIx (fVar 1) (fC (.int 0))))) (fT (f2 gNe (fVar 3) (f2 gIx (fVar 1) (fC (.int 1)))))) (sRet (fC (.int 2))) sNext)
    (sRet (fC (.int 0))))))
def fault_of_D : List D → Option D := runD 2 5 g_fault_of
/-- judge (slots: things, claim, claimed, address, thing, fault, claimed_one) -/
def g_judge : SE → Option Out :=
  (sSeq (sAsg (fCall 2 claimed_things_D (fCons (fVar 1) (fCons (fB gLen (fCons (fVar 0) fNil)) fNil))) [2] (tgN 2))
    (sSeq (sIf (fT (f2 gIs (fVar 2) (fC .non))) (sRet (fLst (fCons (f1 gNeg (fC (.int 1))) fNil))) sNext)
    (sSeq (sFor (iEn (fCons (fVar 0) fNil)) [3, 4] (tgT [3, 4]) (sSeq (sAsg (fCall 2 fault_of_D (fCons (f2 gIx (fVar 2) (fVar 3)) (fCons (fVar 4) fNil))) [5] (tgN 5))
    (sIf (fT (f2 gGt (fVar 5) (fC (.int 0)))) (sRet (fLst (fCons (fC (.int 0)) (fCons (fC (.int 0)) (fCons (fVar 3) (fCons (fVar 5) fNil)))))) sNext)))
    (sRet (fLst (fCons (fC (.int 0)) (fCons (fC (.int 1)) (fCons (fCall 1 how_many_shapes_D (fCons (fLc (iTp (fVar 2)) (tgN 6) fYes (f2 gIx (fVar 6) (fC (.int 2))) [6]) fNil)) fNil))))))))
def judge_D : List D → Option D := runD 2 7 g_judge
/-- sister_place (slots: sisters, shape, name, is_reader, place, sister) -/
def g_sister_place : SE → Option Out :=
  (sSeq (sFor (iEn (fCons (fVar 0) fNil)) [4, 5] (tgT [4, 5]) (sIf (fAnd (fT (f2 gEq (f2 gIx (fVar 5) (fC (.int 0))) (fVar 1))) (fAnd (fT (f2 gEq (f2 gIx (fVar 5) (fC (.int 1))) (fVar 2))) (fT (f2 gEq (f2 gIx (fVar 5) (fC (.int 2))) (fVar 3))))) (sRet (fVar 4)) sNext))
    (sRet (f1 gNeg (fC (.int 1)))))
def sister_place_D : List D → Option D := runD 4 6 g_sister_place
/-- with_risen (slots: sisters, place, value, shape, name, is_reader, kind, risen) -/
def g_with_risen : SE → Option Out :=
  (sSeq (sAsg (f2 gIx (fVar 0) (fVar 1)) [3, 4, 5, 6] (tgT [3, 4, 5, 6]))
    (sSeq (sAsg (fTup (fCons (fVar 3) (fCons (fVar 4) (fCons (fVar 5) (fCons (fCall 2 joined_D (fCons (fVar 6) (fCons (fVar 2) fNil))) fNil))))) [7] (tgN 7))
    (sRet (f2 gAdd (f2 gAdd (fSl (fVar 0) pNone (pSome (fVar 1))) (fTup (fCons (fVar 7) fNil))) (fSl (fVar 0) (pSome (f2 gAdd (fVar 1) (fC (.int 1)))) pNone)))))
def with_risen_D : List D → Option D := runD 3 8 g_with_risen
/-- layout_added (slots: sisters, layout, field, name, is_reader, value, place, higher, kind, sister) -/
def g_layout_added : SE → Option Out :=
  (sSeq (sIf (fT (f2 gIs (fVar 1) (fC .non))) (sRet (fTup (fCons (fVar 0) (fCons (fC .non) fNil)))) sNext)
    (sSeq (sAsg (fVar 2) [3, 4, 5] (tgT [3, 4, 5]))
    (sSeq (sAsg (fCall 4 sister_place_D (fCons (fVar 0) (fCons (fVar 1) (fCons (fVar 3) (fCons (fVar 4) fNil))))) [6] (tgN 6))
    (sSeq (sIf (fT (f2 gGe (fVar 6) (fC (.int 0)))) (sSeq (sAsg (fCall 3 with_risen_D (fCons (fVar 0) (fCons (fVar 6) (fCons (fVar 5) fNil)))) [7] (tgN 7))
    (sRet (fTup (fCons (fVar 7) (fCons (fCall 2 with_slot_D (fCons (fVar 1) (fCons (fTup (fCons (fVar 3) (fCons (fVar 4) (fCons (f2 gIx (f2 gIx (fVar 7) (fVar 6)) (fC (.int 3))) fNil)))) fNil))) fNil))))) sNext)
    (sSeq (sIf (fT (f2 gGe (fB gLen (fCons (fVar 0) fNil)) (fC (.int 60)))) (sRet (fTup (fCons (fVar 0) (fCons (fC .non) fNil)))) sNext)
    (sSeq (sAsg (fCall 1 constant_D (fCons (fVar 5) fNil)) [8] (tgN 8))
    (sSeq (sAsg (fTup (fCons (fVar 1) (fCons (fVar 3) (fCons (fVar 4) (fCons (fVar 8) fNil))))) [9] (tgN 9))
    (sRet (fTup (fCons (f2 gAdd (fVar 0) (fTup (fCons (fVar 9) fNil))) (fCons (fCall 2 with_slot_D (fCons (fVar 1) (fCons (fTup (fCons (fVar 3) (fCons (fVar 4) (fCons (fVar 8) fNil)))) fNil))) fNil)))))))))))
def layout_added_D : List D → Option D := runD 3 10 g_layout_added
/-- layout_replaced (slots: sisters, layout, place, field, name, is_reader, value, slot, after, at) -/
def g_layout_replaced : SE → Option Out :=
  (sSeq (sIf (fT (f2 gIs (fVar 1) (fC .non))) (sRet (fTup (fCons (fVar 0) (fCons (fC .non) fNil)))) sNext)
    (sSeq (sAsg (fVar 3) [4, 5, 6] (tgT [4, 5, 6]))
    (sSeq (sAsg (f2 gIx (f2 gIx (fVar 1) (fC (.int 1))) (fVar 2)) [7] (tgN 7))
    (sSeq (sIf (fT (f2 gNe (f2 gIx (fVar 7) (fC (.int 1))) (fVar 5))) (sRet (fTup (fCons (fVar 0) (fCons (fCall 3 with_other_slot_D (fCons (fVar 1) (fCons (fVar 2) (fCons (fTup (fCons (fVar 4) (fCons (fVar 5) (fCons (fCall 1 constant_D (fCons (fVar 6) fNil)) fNil)))) fNil)))) fNil)))) sNext)
    (sSeq (sAsg (fCall 3 with_other_slot_D (fCons (fVar 1) (fCons (fVar 2) (fCons (fTup (fCons (fVar 4) (fCons (fVar 5) (fCons (fCall 2 joined_D (fCons (f2 gIx (fVar 7) (fC (.int 2))) (fCons (fVar 6) fNil))) fNil)))) fNil)))) [8] (tgN 8))
    (sSeq (sAsg (fCall 4 sister_place_D (fCons (fVar 0) (fCons (fCall 2 up_to_D (fCons (fVar 1) (fCons (fVar 2) fNil))) (fCons (fVar 4) (fCons (fVar 5) fNil))))) [9] (tgN 9))
    (sSeq (sIf (fT (f2 gLt (fVar 9) (fC (.int 0)))) (sRet (fTup (fCons (fVar 0) (fCons (fVar 8) fNil)))) sNext)
    (sRet (fTup (fCons (fCall 3 with_risen_D (fCons (fVar 0) (fCons (fVar 9) (fCons (fVar 6) fNil)))) (fCons (fVar 8) fNil)))))))))))
def layout_replaced_D : List D → Option D := runD 4 10 g_layout_replaced
/-- layout_removed (slots: layout, place) -/
def g_layout_removed : SE → Option Out :=
  (sSeq (sIf (fOr (fT (f2 gIs (fVar 0) (fC .non))) (fT (f2 gLt (fVar 1) (f2 gSub (fB gLen (fCons (f2 gIx (fVar 0) (fC (.int 1))) fNil)) (fC (.int 1)))))) (sRet (fC .non)) sNext)
    (sRet (fCall 2 up_to_D (fCons (fVar 0) (fCons (fVar 1) fNil)))))
def layout_removed_D : List D → Option D := runD 2 2 g_layout_removed
/-- layout_linked (slots: layout, prototype) -/
def g_layout_linked : SE → Option Out :=
  (sSeq (sIf (fT (f2 gIs (fVar 0) (fC .non))) (sRet (fC .non)) sNext)
    (sRet (fCall 2 with_prototype_D (fCons (fVar 0) (fCons (fVar 1) fNil)))))
def layout_linked_D : List D → Option D := runD 2 2 g_layout_linked
/-- layout_made (slots: sisters, prototype, fields, higher, layout, field) -/
def g_layout_made : SE → Option Out :=
  (sSeq (sAsg (fVar 0) [3] (tgN 3))
    (sSeq (sAsg (fCall 1 bare_shape_D (fCons (fVar 1) fNil)) [4] (tgN 4))
    (sSeq (sFor (iTp (fVar 2)) [5] (tgN 5) (sAsg (fCall 3 layout_added_D (fCons (fVar 3) (fCons (fVar 4) (fCons (fVar 5) fNil)))) [3, 4] (tgT [3, 4])))
    (sRet (fTup (fCons (fVar 3) (fCons (fVar 4) fNil)))))))
def layout_made_D : List D → Option D := runD 3 6 g_layout_made
/-- outcome (slots: before, after) -/
def g_outcome : SE → Option Out :=
  (sSeq (sIf (fT (f2 gIs (fVar 0) (fC .non))) (sRet (fC (.int 3))) sNext)
    (sSeq (sIf (fT (f2 gIs (fVar 1) (fC .non))) (sRet (fC (.int 2))) sNext)
    (sSeq (sIf (fT (f2 gEq (fVar 1) (fVar 0))) (sRet (fC (.int 0))) sNext)
    (sRet (fC (.int 1))))))
def outcome_D : List D → Option D := runD 2 2 g_outcome
/-- is_there (slots: things, address) -/
def g_is_there : SE → Option Out :=
  (sRet (f3 gLe gLt (fC (.int 0)) (fVar 1) (fB gLen (fCons (fVar 0) fNil))))
def is_there_D : List D → Option D := runD 2 2 g_is_there
/-- is_known (slots: things, value) -/
def g_is_known : SE → Option Out :=
  (sRet (fOrV (f2 gNe (f2 gIx (fVar 1) (fC (.int 0))) (fC (.int 4))) (fCall 2 is_there_D (fCons (fVar 0) (fCons (f2 gIx (fVar 1) (fC (.int 1))) fNil)))))
def is_known_D : List D → Option D := runD 2 2 g_is_known
/-- with_thing (slots: things, address, thing) -/
def g_with_thing : SE → Option Out :=
  (sRet (f2 gAdd (f2 gAdd (fSl (fVar 0) pNone (pSome (fVar 1))) (fTup (fCons (fVar 2) fNil))) (fSl (fVar 0) (pSome (f2 gAdd (fVar 1) (fC (.int 1)))) pNone)))
def with_thing_D : List D → Option D := runD 3 3 g_with_thing
/-- line_from (slots: things, address, line, at, turn) -/
def g_line_from : SE → Option Out :=
  (sSeq (sOwn fNil 2)
    (sSeq (sAsg (fVar 1) [3] (tgN 3))
    (sSeq (sFor (iR1 (fCons (fB gLen (fCons (fVar 0) fNil)) fNil)) [4] (tgN 4) (sIf (fT (f2 gGe (fVar 3) (fC (.int 0)))) (sSeq (sApp 2 (fVar 3))
    (sAsg (f2 gIx (f2 gIx (fVar 0) (fVar 3)) (fC (.int 0))) [3] (tgN 3))) sNext))
    (sRet (fVar 2)))))
def line_from_D : List D → Option D := runD 2 5 g_line_from
/-- with_field (slots: sisters, thing, field, prototype, fields, layout, place, higher, after) -/
def g_with_field : SE → Option Out :=
  (sSeq (sAsg (fVar 1) [3, 4, 5] (tgT [3, 4, 5]))
    (sSeq (sAsg (fCall 2 field_place_D (fCons (fVar 4) (fCons (f2 gIx (fVar 2) (fC (.int 0))) fNil))) [6] (tgN 6))
    (sSeq (sIf (fT (f2 gLt (fVar 6) (fC (.int 0)))) (sSeq (sAsg (fCall 3 layout_added_D (fCons (fVar 0) (fCons (fVar 5) (fCons (fVar 2) fNil)))) [7, 8] (tgT [7, 8]))
    (sRet (fTup (fCons (fVar 7) (fCons (fTup (fCons (fVar 3) (fCons (f2 gAdd (fVar 4) (fTup (fCons (fVar 2) fNil))) (fCons (fVar 8) fNil)))) fNil))))) sNext)
    (sSeq (sAsg (fCall 4 layout_replaced_D (fCons (fVar 0) (fCons (fVar 5) (fCons (fVar 6) (fCons (fVar 2) fNil))))) [7, 8] (tgT [7, 8]))
    (sRet (fTup (fCons (fVar 7) (fCons (fTup (fCons (fVar 3) (fCons (f2 gAdd (f2 gAdd (fSl (fVar 4) pNone (pSome (fVar 6))) (fTup (fCons (fVar 2) fNil))) (fSl (fVar 4) (pSome (f2 gAdd (fVar 6) (fC (.int 1)))) pNone)) (fCons (fVar 8) fNil)))) fNil))))))))
def with_field_D : List D → Option D := runD 3 9 g_with_field
/-- without_field (slots: thing, place, prototype, fields, layout) -/
def g_without_field : SE → Option Out :=
  (sSeq (sAsg (fVar 0) [2, 3, 4] (tgT [2, 3, 4]))
    (sRet (fTup (fCons (fVar 2) (fCons (f2 gAdd (fSl (fVar 3) pNone (pSome (fVar 1))) (fSl (fVar 3) (pSome (f2 gAdd (fVar 1) (fC (.int 1)))) pNone)) (fCons (fCall 2 layout_removed_D (fCons (fVar 4) (fCons (fVar 1) fNil))) fNil))))))
def without_field_D : List D → Option D := runD 2 5 g_without_field
/-- caught_up (slots: sisters, thing, prototype, fields, layout, higher, after) -/
def g_caught_up : SE → Option Out :=
  (sSeq (sAsg (fVar 1) [2, 3, 4] (tgT [2, 3, 4]))
    (sSeq (sIf (fT (f2 gIs (fVar 4) (fC .non))) (sRet (fTup (fCons (fVar 0) (fCons (fVar 1) fNil)))) sNext)
    (sSeq (sAsg (fCall 3 layout_made_D (fCons (fVar 0) (fCons (fVar 2) (fCons (fVar 3) fNil)))) [5, 6] (tgT [5, 6]))
    (sRet (fTup (fCons (fVar 5) (fCons (fTup (fCons (fVar 2) (fCons (fVar 3) (fCons (fVar 6) fNil)))) fNil)))))))
def caught_up_D : List D → Option D := runD 2 7 g_caught_up
/-- put_refusal (slots: things, address, field, fields) -/
def g_put_refusal : SE → Option Out :=
  (sSeq (sIf (fNot (fT (fCall 1 is_field_D (fCons (fVar 2) fNil)))) (sRet (f1 gNeg (fC (.int 1)))) sNext)
    (sSeq (sIf (fOr (fNot (fT (fCall 2 is_there_D (fCons (fVar 0) (fCons (fVar 1) fNil))))) (fNot (fT (fCall 2 is_known_D (fCons (fVar 0) (fCons (f2 gIx (fVar 2) (fC (.int 2))) fNil)))))) (sRet (f1 gNeg (fC (.int 2)))) sNext)
    (sSeq (sAsg (f2 gIx (f2 gIx (fVar 0) (fVar 1)) (fC (.int 1))) [3] (tgN 3))
    (sSeq (sIf (fAnd (fT (f2 gLt (fCall 2 field_place_D (fCons (fVar 3) (fCons (f2 gIx (fVar 2) (fC (.int 0))) fNil))) (fC (.int 0)))) (fT (f2 gGe (fB gLen (fCons (fVar 3) fNil)) (fC (.int 8))))) (sRet (f1 gNeg (fC (.int 11)))) sNext)
    (sRet (fC (.int 0)))))))
def put_refusal_D : List D → Option D := runD 3 4 g_put_refusal
/-- make_refusal (slots: things, prototype, numbers, fields, field) -/
def g_make_refusal : SE → Option Out :=
  (sSeq (sIf (fOr (fT (f2 gLt (fVar 1) (f1 gNeg (fC (.int 1))))) (fNot (fT (fCall 1 is_list_of_fields_D (fCons (fVar 2) fNil))))) (sRet (f1 gNeg (fC (.int 1)))) sNext)
    (sSeq (sAsg (fCall 1 listed_fields_D (fCons (fVar 2) fNil)) [3] (tgN 3))
    (sSeq (sIf (fT (fCall 1 has_name_twice_D (fCons (fVar 3) fNil))) (sRet (f1 gNeg (fC (.int 1)))) sNext)
    (sSeq (sIf (fOr (fT (f2 gGe (fVar 1) (fB gLen (fCons (fVar 0) fNil)))) (fNot (fT (fB gAll (fCons (fLc (iTp (fVar 3)) (tgN 4) fYes (fCall 2 is_known_D (fCons (fVar 0) (fCons (f2 gIx (fVar 4) (fC (.int 2))) fNil))) [4]) fNil))))) (sRet (f1 gNeg (fC (.int 2)))) sNext)
    (sSeq (sIf (fT (f2 gGt (fB gLen (fCons (fVar 3) fNil)) (fC (.int 8)))) (sRet (f1 gNeg (fC (.int 11)))) sNext)
    (sSeq (sIf (fT (f2 gGe (fB gLen (fCons (fVar 0) fNil)) (fC (.int 40)))) (sRet (f1 gNeg (fC (.int 8)))) sNext)
    (sRet (fC (.int 0)))))))))
def make_refusal_D : List D → Option D := runD 3 5 g_make_refusal
/-- make (slots: state, prototype, numbers, things, sisters, refusal, fields, higher, layout, made) -/
def g_make : SE → Option Out :=
  (sSeq (sAsg (fVar 0) [3, 4] (tgT [3, 4]))
    (sSeq (sAsg (fCall 3 make_refusal_D (fCons (fVar 3) (fCons (fVar 1) (fCons (fVar 2) fNil)))) [5] (tgN 5))
    (sSeq (sIf (fT (f2 gLt (fVar 5) (fC (.int 0)))) (sRet (fTup (fCons (fVar 0) (fCons (fLst (fCons (fVar 5) fNil)) fNil)))) sNext)
    (sSeq (sAsg (fCall 1 listed_fields_D (fCons (fVar 2) fNil)) [6] (tgN 6))
    (sSeq (sAsg (fCall 3 layout_made_D (fCons (fVar 4) (fCons (fVar 1) (fCons (fVar 6) fNil)))) [7, 8] (tgT [7, 8]))
    (sSeq (sAsg (fTup (fCons (fVar 1) (fCons (fVar 6) (fCons (fVar 8) fNil)))) [9] (tgN 9))
    (sRet (fTup (fCons (fTup (fCons (f2 gAdd (fVar 3) (fTup (fCons (fVar 9) fNil))) (fCons (fVar 7) fNil))) (fCons (fLst (fCons (fC (.int 0)) (fCons (fB gLen (fCons (fVar 3) fNil)) fNil))) fNil))))))))))
def make_D : List D → Option D := runD 3 10 g_make
/-- put (slots: state, address, field, things, sisters, refusal, before, higher, after) -/
def g_put : SE → Option Out :=
  (sSeq (sAsg (fVar 0) [3, 4] (tgT [3, 4]))
    (sSeq (sAsg (fCall 3 put_refusal_D (fCons (fVar 3) (fCons (fVar 1) (fCons (fVar 2) fNil)))) [5] (tgN 5))
    (sSeq (sIf (fT (f2 gLt (fVar 5) (fC (.int 0)))) (sRet (fTup (fCons (fVar 0) (fCons (fLst (fCons (fVar 5) fNil)) fNil)))) sNext)
    (sSeq (sAsg (f2 gIx (fVar 3) (fVar 1)) [6] (tgN 6))
    (sSeq (sAsg (fCall 3 with_field_D (fCons (fVar 4) (fCons (fVar 6) (fCons (fVar 2) fNil)))) [7, 8] (tgT [7, 8]))
    (sRet (fTup (fCons (fTup (fCons (fCall 3 with_thing_D (fCons (fVar 3) (fCons (fVar 1) (fCons (fVar 8) fNil)))) (fCons (fVar 7) fNil))) (fCons (fLst (fCons (fC (.int 0)) (fCons (fCall 2 outcome_D (fCons (f2 gIx (fVar 6) (fC (.int 2))) (fCons (f2 gIx (fVar 8) (fC (.int 2))) fNil))) fNil))) fNil)))))))))
def put_D : List D → Option D := runD 3 9 g_put
/-- take_out (slots: state, address, name, things, sisters, before, place, after) -/
def g_take_out : SE → Option Out :=
  (sSeq (sAsg (fVar 0) [3, 4] (tgT [3, 4]))
    (sSeq (sIf (fNot (fT (fCall 1 is_name_D (fCons (fVar 2) fNil)))) (sRet (fTup (fCons (fVar 0) (fCons (fLst (fCons (f1 gNeg (fC (.int 1))) fNil)) fNil)))) sNext)
    (sSeq (sIf (fNot (fT (fCall 2 is_there_D (fCons (fVar 3) (fCons (fVar 1) fNil))))) (sRet (fTup (fCons (fVar 0) (fCons (fLst (fCons (f1 gNeg (fC (.int 2))) fNil)) fNil)))) sNext)
    (sSeq (sAsg (f2 gIx (fVar 3) (fVar 1)) [5] (tgN 5))
    (sSeq (sAsg (fCall 2 field_place_D (fCons (f2 gIx (fVar 5) (fC (.int 1))) (fCons (fVar 2) fNil))) [6] (tgN 6))
    (sSeq (sIf (fT (f2 gLt (fVar 6) (fC (.int 0)))) (sRet (fTup (fCons (fVar 0) (fCons (fLst (fCons (f1 gNeg (fC (.int 3))) fNil)) fNil)))) sNext)
    (sSeq (sAsg (fCall 2 without_field_D (fCons (fVar 5) (fCons (fVar 6) fNil))) [7] (tgN 7))
    (sRet (fTup (fCons (fTup (fCons (fCall 3 with_thing_D (fCons (fVar 3) (fCons (fVar 1) (fCons (fVar 7) fNil)))) (fCons (fVar 4) fNil))) (fCons (fLst (fCons (fC (.int 0)) (fCons (fCall 2 outcome_D (fCons (f2 gIx (fVar 5) (fC (.int 2))) (fCons (f2 gIx (fVar 7) (fC (.int 2))) fNil))) fNil))) fNil)))))))))))
def take_out_D : List D → Option D := runD 3 8 g_take_out
/-- link (slots: state, address, prototype, things, sisters, fields, before, after) -/
def g_link : SE → Option Out :=
  (sSeq (sAsg (fVar 0) [3, 4] (tgT [3, 4]))
    (sSeq (sIf (fT (f2 gLt (fVar 2) (f1 gNeg (fC (.int 1))))) (sRet (fTup (fCons (fVar 0) (fCons (fLst (fCons (f1 gNeg (fC (.int 1))) fNil)) fNil)))) sNext)
    (sSeq (sIf (fOr (fNot (fT (fCall 2 is_there_D (fCons (fVar 3) (fCons (fVar 1) fNil))))) (fT (f2 gGe (fVar 2) (fB gLen (fCons (fVar 3) fNil))))) (sRet (fTup (fCons (fVar 0) (fCons (fLst (fCons (f1 gNeg (fC (.int 2))) fNil)) fNil)))) sNext)
    (sSeq (sIf (fT (f2 gIn (fVar 1) (fCall 2 line_from_D (fCons (fVar 3) (fCons (fVar 2) fNil))))) (sRet (fTup (fCons (fVar 0) (fCons (fLst (fCons (f1 gNeg (fC (.int 9))) fNil)) fNil)))) sNext)
    (sSeq (sAsg (f2 gIx (f2 gIx (fVar 3) (fVar 1)) (fC (.int 1))) [5] (tgN 5))
    (sSeq (sAsg (f2 gIx (f2 gIx (fVar 3) (fVar 1)) (fC (.int 2))) [6] (tgN 6))
    (sSeq (sAsg (fCall 2 layout_linked_D (fCons (fVar 6) (fCons (fVar 2) fNil))) [7] (tgN 7))
    (sRet (fTup (fCons (fTup (fCons (fCall 3 with_thing_D (fCons (fVar 3) (fCons (fVar 1) (fCons (fTup (fCons (fVar 2) (fCons (fVar 5) (fCons (fVar 7) fNil)))) fNil)))) (fCons (fVar 4) fNil))) (fCons (fLst (fCons (fC (.int 0)) (fCons (fCall 2 outcome_D (fCons (fVar 6) (fCons (fVar 7) fNil))) fNil))) fNil)))))))))))
def link_D : List D → Option D := runD 3 8 g_link
/-- loosen (slots: state, address, things, sisters, prototype, fields, layout) -/
def g_loosen : SE → Option Out :=
  (sSeq (sAsg (fVar 0) [2, 3] (tgT [2, 3]))
    (sSeq (sIf (fNot (fT (fCall 2 is_there_D (fCons (fVar 2) (fCons (fVar 1) fNil))))) (sRet (fTup (fCons (fVar 0) (fCons (fLst (fCons (f1 gNeg (fC (.int 2))) fNil)) fNil)))) sNext)
    (sSeq (sAsg (f2 gIx (fVar 2) (fVar 1)) [4, 5, 6] (tgT [4, 5, 6]))
    (sRet (fTup (fCons (fTup (fCons (fCall 3 with_thing_D (fCons (fVar 2) (fCons (fVar 1) (fCons (fTup (fCons (fVar 4) (fCons (fVar 5) (fCons (fC .non) fNil)))) fNil)))) (fCons (fVar 3) fNil))) (fCons (fLst (fCons (fC (.int 0)) (fCons (fCall 2 outcome_D (fCons (fVar 6) (fCons (fC .non) fNil))) fNil))) fNil)))))))
def loosen_D : List D → Option D := runD 2 7 g_loosen
/-- settle (slots: state, address, things, sisters, prototype, fields, layout, settled) -/
def g_settle : SE → Option Out :=
  (sSeq (sAsg (fVar 0) [2, 3] (tgT [2, 3]))
    (sSeq (sIf (fNot (fT (fCall 2 is_there_D (fCons (fVar 2) (fCons (fVar 1) fNil))))) (sRet (fTup (fCons (fVar 0) (fCons (fLst (fCons (f1 gNeg (fC (.int 2))) fNil)) fNil)))) sNext)
    (sSeq (sAsg (f2 gIx (fVar 2) (fVar 1)) [4, 5, 6] (tgT [4, 5, 6]))
    (sSeq (sIf (fT (f2 gIsNot (fVar 6) (fC .non))) (sRet (fTup (fCons (fVar 0) (fCons (fLst (fCons (fC (.int 0)) (fCons (fC (.int 0)) fNil))) fNil)))) sNext)
    (sSeq (sAsg (fTup (fCons (fVar 4) (fCons (fVar 5) (fCons (fCall 2 constant_shape_D (fCons (fVar 4) (fCons (fVar 5) fNil))) fNil)))) [7] (tgN 7))
    (sRet (fTup (fCons (fTup (fCons (fCall 3 with_thing_D (fCons (fVar 2) (fCons (fVar 1) (fCons (fVar 7) fNil)))) (fCons (fVar 3) fNil))) (fCons (fLst (fCons (fC (.int 0)) (fCons (fC (.int 1)) fNil))) fNil)))))))))
def settle_D : List D → Option D := runD 2 8 g_settle
/-- catch_up (slots: state, things, sisters, later, higher, count, thing, after) -/
def g_catch_up : SE → Option Out :=
  (sSeq (sAsg (fVar 0) [1, 2] (tgT [1, 2]))
    (sSeq (sAsg (fTup fNil) [3] (tgN 3))
    (sSeq (sAsg (fVar 2) [4] (tgN 4))
    (sSeq (sAsg (fC (.int 0)) [5] (tgN 5))
    (sSeq (sFor (iTp (fVar 1)) [6] (tgN 6) (sSeq (sAsg (fCall 2 caught_up_D (fCons (fVar 4) (fCons (fVar 6) fNil))) [4, 7] (tgT [4, 7]))
    (sSeq (sAsg (f2 gAdd (fVar 3) (fTup (fCons (fVar 7) fNil))) [3] (tgN 3))
    (sIf (fT (f2 gNe (f2 gIx (fVar 7) (fC (.int 2))) (f2 gIx (fVar 6) (fC (.int 2))))) (sAsg (f2 gAdd (fVar 5) (fC (.int 1))) [5] (tgN 5)) sNext))))
    (sRet (fTup (fCons (fTup (fCons (fVar 3) (fCons (fVar 4) fNil))) (fCons (fLst (fCons (fC (.int 0)) (fCons (fVar 5) fNil))) fNil)))))))))
def catch_up_D : List D → Option D := runD 1 8 g_catch_up
/-- tell_object (slots: things, address, prototype, fields, layout, told, field) -/
def g_tell_object : SE → Option Out :=
  (sSeq (sIf (fNot (fT (fCall 2 is_there_D (fCons (fVar 0) (fCons (fVar 1) fNil))))) (sRet (fLst (fCons (f1 gNeg (fC (.int 2))) fNil))) sNext)
    (sSeq (sAsg (f2 gIx (fVar 0) (fVar 1)) [2, 3, 4] (tgT [2, 3, 4]))
    (sSeq (sOwn (fCons (fC (.int 0)) (fCons (fVar 2) (fCons (fB gLen (fCons (fVar 3) fNil)) fNil))) 5)
    (sSeq (sFor (iTp (fVar 3)) [6] (tgN 6) (sExtL 5 (fCall 1 told_field_D (fCons (fVar 6) fNil))))
    (sRet (fVar 5))))))
def tell_object_D : List D → Option D := runD 2 7 g_tell_object
/-- tell_shape (slots: things, address) -/
def g_tell_shape : SE → Option Out :=
  (sSeq (sIf (fNot (fT (fCall 2 is_there_D (fCons (fVar 0) (fCons (fVar 1) fNil))))) (sRet (fLst (fCons (f1 gNeg (fC (.int 2))) fNil))) sNext)
    (sRet (f2 gAdd (fLst (fCons (fC (.int 0)) fNil)) (fCall 1 told_layout_D (fCons (f2 gIx (f2 gIx (fVar 0) (fVar 1)) (fC (.int 2))) fNil)))))
def tell_shape_D : List D → Option D := runD 2 2 g_tell_shape
/-- tell_same_shape (slots: things, one, other, layout) -/
def g_tell_same_shape : SE → Option Out :=
  (sSeq (sIf (fOr (fNot (fT (fCall 2 is_there_D (fCons (fVar 0) (fCons (fVar 1) fNil))))) (fNot (fT (fCall 2 is_there_D (fCons (fVar 0) (fCons (fVar 2) fNil)))))) (sRet (fLst (fCons (f1 gNeg (fC (.int 2))) fNil))) sNext)
    (sSeq (sAsg (f2 gIx (f2 gIx (fVar 0) (fVar 1)) (fC (.int 2))) [3] (tgN 3))
    (sSeq (sIf (fOr (fT (f2 gIs (fVar 3) (fC .non))) (fT (f2 gNe (fVar 3) (f2 gIx (f2 gIx (fVar 0) (fVar 2)) (fC (.int 2)))))) (sRet (fLst (fCons (fC (.int 0)) (fCons (fC (.int 0)) fNil)))) sNext)
    (sRet (fLst (fCons (fC (.int 0)) (fCons (fC (.int 1)) fNil)))))))
def tell_same_shape_D : List D → Option D := runD 3 4 g_tell_same_shape
/-- tell_find (slots: things, address, name, looked, holder, fields, place, is_reader, kind, content) -/
def g_tell_find : SE → Option Out :=
  (sSeq (sIf (fNot (fT (fCall 1 is_name_D (fCons (fVar 2) fNil)))) (sRet (fLst (fCons (f1 gNeg (fC (.int 1))) fNil))) sNext)
    (sSeq (sIf (fNot (fT (fCall 2 is_there_D (fCons (fVar 0) (fCons (fVar 1) fNil))))) (sRet (fLst (fCons (f1 gNeg (fC (.int 2))) fNil))) sNext)
    (sSeq (sAsg (fC (.int 0)) [3] (tgN 3))
    (sSeq (sFor (iLst (fCall 2 line_from_D (fCons (fVar 0) (fCons (fVar 1) fNil)))) [4] (tgN 4) (sSeq (sAsg (f2 gAdd (fVar 3) (fC (.int 1))) [3] (tgN 3))
    (sSeq (sAsg (f2 gIx (f2 gIx (fVar 0) (fVar 4)) (fC (.int 1))) [5] (tgN 5))
    (sSeq (sAsg (fCall 2 field_place_D (fCons (fVar 5) (fCons (fVar 2) fNil))) [6] (tgN 6))
    (sIf (fT (f2 gGe (fVar 6) (fC (.int 0)))) (sSeq (sAsg (f2 gIx (f2 gIx (fVar 5) (fVar 6)) (fC (.int 1))) [7] (tgN 7))
    (sSeq (sAsg (f2 gIx (f2 gIx (fVar 5) (fVar 6)) (fC (.int 2))) [8, 9] (tgT [8, 9]))
    (sRet (fLst (fCons (fC (.int 0)) (fCons (fC (.int 1)) (fCons (fVar 3) (fCons (fVar 4) (fCons (fVar 6) (fCons (fVar 7) (fCons (fVar 8) (fCons (fVar 9) fNil)))))))))))) sNext)))))
    (sRet (fLst (fCons (fC (.int 0)) (fCons (fC (.int 0)) (fCons (fVar 3) fNil)))))))))
def tell_find_D : List D → Option D := runD 3 10 g_tell_find
/-- tell_sisters (slots: sisters, told, shape, name, is_reader, kind) -/
def g_tell_sisters : SE → Option Out :=
  (sSeq (sOwn (fCons (fC (.int 0)) (fCons (fB gLen (fCons (fVar 0) fNil)) fNil)) 1)
    (sSeq (sFor (iTp (fVar 0)) [2, 3, 4, 5] (tgT [2, 3, 4, 5]) (sSeq (sExtL 1 (fCall 1 told_shape_D (fCons (fVar 2) fNil)))
    (sSeq (sApp 1 (fVar 3))
    (sSeq (sApp 1 (fVar 4))
    (sExtT 1 (fVar 5))))))
    (sRet (fVar 1))))
def tell_sisters_D : List D → Option D := runD 1 6 g_tell_sisters
/-- tell_would (slots: things, sisters, address, field, refusal, before, higher, after) -/
def g_tell_would : SE → Option Out :=
  (sSeq (sAsg (fCall 3 put_refusal_D (fCons (fVar 0) (fCons (fVar 2) (fCons (fVar 3) fNil)))) [4] (tgN 4))
    (sSeq (sIf (fT (f2 gLt (fVar 4) (fC (.int 0)))) (sRet (fLst (fCons (fVar 4) fNil))) sNext)
    (sSeq (sAsg (f2 gIx (fVar 0) (fVar 2)) [5] (tgN 5))
    (sSeq (sAsg (fCall 3 with_field_D (fCons (fVar 1) (fCons (fVar 5) (fCons (fVar 3) fNil)))) [6, 7] (tgT [6, 7]))
    (sRet (f2 gAdd (fLst (fCons (fC (.int 0)) (fCons (fCall 2 outcome_D (fCons (f2 gIx (fVar 5) (fC (.int 2))) (fCons (f2 gIx (fVar 7) (fC (.int 2))) fNil))) fNil))) (fCall 1 told_layout_D (fCons (f2 gIx (fVar 7) (fC (.int 2))) fNil))))))))
def tell_would_D : List D → Option D := runD 4 8 g_tell_would
/-- tell_totals (slots: things, sisters, laid, loose, thing, layout) -/
def g_tell_totals : SE → Option Out :=
  (sSeq (sAsg (fLc (iTp (fVar 0)) (tgN 4) fYes (f2 gIx (fVar 4) (fC (.int 2))) [4]) [2] (tgN 2))
    (sSeq (sAsg (fLc (iLst (fVar 2)) (tgN 5) (fT (f2 gIs (fVar 5) (fC .non))) (fVar 5) [5]) [3] (tgN 3))
    (sRet (fLst (fCons (fC (.int 0)) (fCons (fB gLen (fCons (fVar 0) fNil)) (fCons (fB gLen (fCons (fVar 3) fNil)) (fCons (fCall 1 how_many_shapes_D (fCons (fVar 2) fNil)) (fCons (fB gLen (fCons (fVar 1) fNil)) fNil)))))))))
def tell_totals_D : List D → Option D := runD 2 6 g_tell_totals
/-- call_size (slots: calls, at, size) -/
def g_call_size : SE → Option Out :=
  (sSeq (sAsg (f2 gIx (fC (.tup (([3, 6, 3, 3, 2, 2, 1, 2, 2, 3, 3, 1, 6, 2, 1] : List Int).map D.int))) (f2 gIx (fVar 0) (fVar 1))) [2] (tgN 2))
    (sSeq (sIf (fOr (fT (f2 gEq (f2 gIx (fVar 0) (fVar 1)) (fC (.int 0)))) (fT (f2 gEq (f2 gIx (fVar 0) (fVar 1)) (fC (.int 13))))) (sRet (f2 gAdd (fVar 2) (f2 gIx (fVar 0) (f2 gSub (f2 gAdd (fVar 1) (fVar 2)) (fC (.int 1)))))) sNext)
    (sRet (fVar 2))))
def call_size_D : List D → Option D := runD 2 3 g_call_size
/-- ordered (slots: state, call, operation) -/
def g_ordered : SE → Option Out :=
  (sSeq (sAsg (f2 gIx (fVar 1) (fC (.int 0))) [2] (tgN 2))
    (sSeq (sIf (fT (f2 gEq (fVar 2) (fC (.int 0)))) (sRet (fCall 3 make_D (fCons (fVar 0) (fCons (f2 gIx (fVar 1) (fC (.int 1))) (fCons (fSl (fVar 1) (pSome (fC (.int 3))) pNone) fNil))))) sNext)
    (sSeq (sIf (fT (f2 gEq (fVar 2) (fC (.int 1)))) (sRet (fCall 3 put_D (fCons (fVar 0) (fCons (f2 gIx (fVar 1) (fC (.int 1))) (fCons (fCall 2 field_at_D (fCons (fVar 1) (fCons (fC (.int 2)) fNil))) fNil))))) sNext)
    (sSeq (sIf (fT (f2 gEq (fVar 2) (fC (.int 2)))) (sRet (fCall 3 take_out_D (fCons (fVar 0) (fCons (f2 gIx (fVar 1) (fC (.int 1))) (fCons (f2 gIx (fVar 1) (fC (.int 2))) fNil))))) sNext)
    (sSeq (sIf (fT (f2 gEq (fVar 2) (fC (.int 3)))) (sRet (fCall 3 link_D (fCons (fVar 0) (fCons (f2 gIx (fVar 1) (fC (.int 1))) (fCons (f2 gIx (fVar 1) (fC (.int 2))) fNil))))) sNext)
    (sSeq (sIf (fT (f2 gEq (fVar 2) (fC (.int 4)))) (sRet (fCall 2 loosen_D (fCons (fVar 0) (fCons (f2 gIx (fVar 1) (fC (.int 1))) fNil)))) sNext)
    (sSeq (sIf (fT (f2 gEq (fVar 2) (fC (.int 5)))) (sRet (fCall 2 settle_D (fCons (fVar 0) (fCons (f2 gIx (fVar 1) (fC (.int 1))) fNil)))) sNext)
    (sRet (fCall 1 catch_up_D (fCons (fVar 0) fNil))))))))))
def ordered_D : List D → Option D := runD 2 3 g_ordered
/-- told (slots: state, call, things, sisters, operation) -/
def g_told : SE → Option Out :=
  (sSeq (sAsg (fVar 0) [2, 3] (tgT [2, 3]))
    (sSeq (sAsg (f2 gIx (fVar 1) (fC (.int 0))) [4] (tgN 4))
    (sSeq (sIf (fT (f2 gEq (fVar 4) (fC (.int 7)))) (sRet (fCall 2 tell_object_D (fCons (fVar 2) (fCons (f2 gIx (fVar 1) (fC (.int 1))) fNil)))) sNext)
    (sSeq (sIf (fT (f2 gEq (fVar 4) (fC (.int 8)))) (sRet (fCall 2 tell_shape_D (fCons (fVar 2) (fCons (f2 gIx (fVar 1) (fC (.int 1))) fNil)))) sNext)
    (sSeq (sIf (fT (f2 gEq (fVar 4) (fC (.int 9)))) (sRet (fCall 3 tell_same_shape_D (fCons (fVar 2) (fCons (f2 gIx (fVar 1) (fC (.int 1))) (fCons (f2 gIx (fVar 1) (fC (.int 2))) fNil))))) sNext)
    (sSeq (sIf (fT (f2 gEq (fVar 4) (fC (.int 10)))) (sRet (fCall 3 tell_find_D (fCons (fVar 2) (fCons (f2 gIx (fVar 1) (fC (.int 1))) (fCons (f2 gIx (fVar 1) (fC (.int 2))) fNil))))) sNext)
    (sSeq (sIf (fT (f2 gEq (fVar 4) (fC (.int 11)))) (sRet (fCall 1 tell_sisters_D (fCons (fVar 3) fNil))) sNext)
    (sSeq (sIf (fT (f2 gEq (fVar 4) (fC (.int 12)))) (sRet (fCall 4 tell_would_D (fCons (fVar 2) (fCons (fVar 3) (fCons (f2 gIx (fVar 1) (fC (.int 1))) (fCons (fCall 2 field_at_D (fCons (fVar 1) (fCons (fC (.int 2)) fNil))) fNil)))))) sNext)
    (sSeq (sIf (fT (f2 gEq (fVar 4) (fC (.int 13)))) (sRet (fCall 2 judge_D (fCons (fVar 2) (fCons (fSl (fVar 1) (pSome (fC (.int 2))) pNone) fNil)))) sNext)
    (sRet (fCall 2 tell_totals_D (fCons (fVar 2) (fCons (fVar 3) fNil)))))))))))))
def told_D : List D → Option D := runD 2 5 g_told
/-- carried_out (slots: state, call) -/
def g_carried_out : SE → Option Out :=
  (sSeq (sIf (fT (f2 gLe (f2 gIx (fVar 1) (fC (.int 0))) (fC (.int 6)))) (sRet (fCall 2 ordered_D (fCons (fVar 0) (fCons (fVar 1) fNil)))) sNext)
    (sRet (fTup (fCons (fVar 0) (fCons (fCall 2 told_D (fCons (fVar 0) (fCons (fVar 1) fNil))) fNil)))))
def carried_out_D : List D → Option D := runD 2 2 g_carried_out
/-- answers (slots: calls, given, state, left, at, size, answer) -/
def g_answers : SE → Option Out :=
  (sSeq (sOwn fNil 1)
    (sSeq (sAsg (fTup (fCons (fTup fNil) (fCons (fTup fNil) fNil))) [2] (tgN 2))
    (sSeq (sAsg (fB gLen (fCons (fVar 0) fNil)) [3] (tgN 3))
    (sSeq (whileD (fT (f2 gGt (fVar 3) (fC (.int 0)))) (sSeq (sAsg (f2 gSub (fB gLen (fCons (fVar 0) fNil)) (fVar 3)) [4] (tgN 4))
    (sSeq (sAsg (fCall 2 call_size_D (fCons (fVar 0) (fCons (fVar 4) fNil))) [5] (tgN 5))
    (sSeq (sAsg (fCall 2 carried_out_D (fCons (fVar 2) (fCons (fSl (fVar 0) (pSome (fVar 4)) (pSome (f2 gAdd (fVar 4) (fVar 5)))) fNil))) [2, 6] (tgT [2, 6]))
    (sSeq (sApp 1 (fB gLen (fCons (fVar 6) fNil)))
    (sSeq (sExtL 1 (fVar 6))
    (sAsg (f2 gSub (fVar 3) (fVar 5)) [3] (tgN 3))))))) 25001)
    (sRet (fVar 1))))))
def answers_D : List D → Option D := runD 1 7 g_answers
end Sb
end
section
set_option Elab.async false
set_option linter.all false
set_option maxRecDepth 100000
set_option maxHeartbeats 4000000
namespace Sb
open PySem PySem.Spec PyProof.Rows L2
/-- the i-th statement of the program -/
def topS (i : Nat) : Stmt := PySem.Challenge.pw_shapebets_s01_answers.main.body.getD i (.Pass ⟨0, 0, 0, 0⟩)

/-- what the top has written beside the defs -/
structure Txt (K : PySem.W.Frag) (mg : Str → Option Value) : Prop where
  c_NOTHING : ∃ t, mg "NOTHING" = some (Value.int 0 t)
  c_TRUTH : ∃ t, mg "TRUTH" = some (Value.int 1 t)
  c_NUMBER : ∃ t, mg "NUMBER" = some (Value.int 2 t)
  c_TEXT : ∃ t, mg "TEXT" = some (Value.int 3 t)
  c_OBJECT : ∃ t, mg "OBJECT" = some (Value.int 4 t)
  c_FUNCTION : ∃ t, mg "FUNCTION" = some (Value.int 5 t)
  c_CONSTANT : ∃ t, mg "CONSTANT" = some (Value.int 0 t)
  c_ANYTHING : ∃ t, mg "ANYTHING" = some (Value.int 6 t)
  c_GREATEST_NUMBER : ∃ t, mg "GREATEST_NUMBER" = some (Value.int 1000000000 t)
  c_LAST_TEXT : ∃ t, mg "LAST_TEXT" = some (Value.int 25 t)
  c_LAST_ADDRESS : ∃ t, mg "LAST_ADDRESS" = some (Value.int 39 t)
  c_LAST_FUNCTION : ∃ t, mg "LAST_FUNCTION" = some (Value.int 9 t)
  c_LAST_NAME : ∃ t, mg "LAST_NAME" = some (Value.int 25 t)
  c_MOST_FIELDS : ∃ t, mg "MOST_FIELDS" = some (Value.int 8 t)
  c_MOST_SISTERS : ∃ t, mg "MOST_SISTERS" = some (Value.int 60 t)
  c_MOST_THINGS : ∃ t, mg "MOST_THINGS" = some (Value.int 40 t)
  c_MAKE : ∃ t, mg "MAKE" = some (Value.int 0 t)
  c_JUDGE : ∃ t, mg "JUDGE" = some (Value.int 13 t)
  n_all : mg "all" = none
  n_enumerate : mg "enumerate" = none
  n_len : mg "len" = none
  n_range : mg "range" = none
  n_tuple : mg "tuple" = none
  n_zip : mg "zip" = none
  a_NUMBERS_AHEAD : ∃ a, mg "NUMBERS_AHEAD" = some (Value.ref a) ∧ ∀ H, SqT K H a (([3, 6, 3, 3, 2, 2, 1, 2, 2, 3, 3, 1, 6, 2, 1] : List Int).map V.int)
section
variable {P : Program} {w : World} {K : PySem.W.Frag} {mg : Str → Option Value} {base : Heap}
abbrev s_is_value : Stmt := topS 13
abbrev N_is_value : List Str := ["value", "kind", "content"]
theorem sc_is_value : FnScope N_is_value ["value"] (defScope s_is_value) := ⟨rfl, rfl, rfl, by decide +kernel, rfl, by decide +kernel, by decide +kernel⟩
theorem ok_is_value (T : Txt K mg) (h : Has K mg "is_value" s_is_value)  : Ok P w K mg base "is_value" 1 1 is_value_D := by
  refine ok_def h sc_is_value rfl (fun _ _ _ _ _ _ us hl => match us, hl with | [_], _ => rfl) fun f cdv A outer s H E hr => ?_
  exact ⟨_, (dss_cons (ds_asg (de_var 0 (pv 0) rfl) (dg_tup (is := [1, 2]) rfl rfl (dgs_cons (pg_name (i := 1) sc_is_value.nd rfl (Or.inl rfl)) (dgs_cons (pg_name (i := 2) sc_is_value.nd rfl (Or.inl rfl)) dgs_nil))))
    (dss_cons (ds_if (dt_cmp (c_eq hr rfl) (de_var 1 (pv 1) rfl) (de_glob rfl T.c_NOTHING rfl) (nomark _)) (dss_one (ds_ret (de_cmp (c_eq hr rfl) (de_var 2 (pv 2) rfl) (de_con pe_int rfl fun _ => .int _) (nomark _)))) dss_nil)
    (dss_cons (ds_if (dt_cmp (c_eq hr rfl) (de_var 1 (pv 1) rfl) (de_glob rfl T.c_TRUTH rfl) (nomark _)) (dss_one (ds_ret (de_chain c_le c_le (de_con pe_int rfl fun _ => .int _) (de_var 2 (pv 2) rfl) (de_con pe_int rfl fun _ => .int _)))) dss_nil)
    (dss_cons (ds_if (dt_cmp (c_eq hr rfl) (de_var 1 (pv 1) rfl) (de_glob rfl T.c_NUMBER rfl) (nomark _)) (dss_one (ds_ret (de_chain c_le c_le (de_neg (de_glob rfl T.c_GREATEST_NUMBER rfl)) (de_var 2 (pv 2) rfl) (de_glob rfl T.c_GREATEST_NUMBER rfl)))) dss_nil)
    (dss_cons (ds_if (dt_cmp (c_eq hr rfl) (de_var 1 (pv 1) rfl) (de_glob rfl T.c_TEXT rfl) (nomark _)) (dss_one (ds_ret (de_chain c_le c_le (de_con pe_int rfl fun _ => .int _) (de_var 2 (pv 2) rfl) (de_glob rfl T.c_LAST_TEXT rfl)))) dss_nil)
    (dss_cons (ds_if (dt_cmp (c_eq hr rfl) (de_var 1 (pv 1) rfl) (de_glob rfl T.c_OBJECT rfl) (nomark _)) (dss_one (ds_ret (de_chain c_le c_le (de_con pe_int rfl fun _ => .int _) (de_var 2 (pv 2) rfl) (de_glob rfl T.c_LAST_ADDRESS rfl)))) dss_nil)
    (dss_one (ds_ret (de_and (de_cmp (c_eq hr rfl) (de_var 1 (pv 1) rfl) (de_glob rfl T.c_FUNCTION rfl) (nomark _)) (de_one (de_chain c_le c_le (de_con pe_int rfl fun _ => .int _) (de_var 2 (pv 2) rfl) (de_glob rfl T.c_LAST_FUNCTION rfl))))))))))))⟩
abbrev s_constant : Stmt := topS 14
abbrev N_constant : List Str := ["value", "kind", "content"]
theorem sc_constant : FnScope N_constant ["value"] (defScope s_constant) := ⟨rfl, rfl, rfl, by decide +kernel, rfl, by decide +kernel, by decide +kernel⟩
theorem ok_constant (T : Txt K mg) (h : Has K mg "constant" s_constant)  : Ok P w K mg base "constant" 1 1 constant_D := by
  refine ok_def h sc_constant rfl (fun _ _ _ _ _ _ us hl => match us, hl with | [_], _ => rfl) fun f cdv A outer s H E hr => ?_
  exact ⟨_, (dss_cons (ds_asg (de_var 0 (pv 0) rfl) (dg_tup (is := [1, 2]) rfl rfl (dgs_cons (pg_name (i := 1) sc_constant.nd rfl (Or.inl rfl)) (dgs_cons (pg_name (i := 2) sc_constant.nd rfl (Or.inl rfl)) dgs_nil))))
    (dss_one (ds_ret (de_tup (da_cons (de_glob rfl T.c_CONSTANT rfl) (da_cons (de_var 1 (pv 1) rfl) (da_cons (de_var 2 (pv 2) rfl) (da_nil rfl))))))))⟩
abbrev s_has : Stmt := topS 15
abbrev N_has : List Str := ["kind", "value"]
theorem sc_has : FnScope N_has ["kind", "value"] (defScope s_has) := ⟨rfl, rfl, rfl, by decide +kernel, rfl, by decide +kernel, by decide +kernel⟩
theorem ok_has (T : Txt K mg) (h : Has K mg "has" s_has) (o_constant : Ok P w K mg base "constant" 1 1 constant_D) : Ok P w K mg base "has" 2 2 has_D := by
  refine ok_def h sc_has rfl (fun _ _ _ _ _ _ us hl => match us, hl with | [_, _], _ => rfl) fun f cdv A outer s H E hr => ?_
  exact ⟨_, (dss_cons (ds_if (dt_cmp (c_eq hr rfl) (de_ix (de_var 0 (pv 0) rfl) (de_con pe_int rfl fun _ => .int _) (fun _ _ => rfl)) (de_glob rfl T.c_CONSTANT rfl) (nomark _)) (dss_one (ds_ret (de_cmp (c_eq hr rfl) (de_var 0 (pv 0) rfl) (de_call o_constant hr (by decide) rfl (da_cons (de_var 1 (pv 1) rfl) (da_nil rfl))) (nomark _)))) dss_nil)
    (dss_one (ds_ret (de_or (de_cmp (c_eq hr rfl) (de_ix (de_var 0 (pv 0) rfl) (de_con pe_int rfl fun _ => .int _) (fun _ _ => rfl)) (de_glob rfl T.c_ANYTHING rfl) (nomark _)) (de_one (de_cmp (c_eq hr rfl) (de_ix (de_var 0 (pv 0) rfl) (de_con pe_int rfl fun _ => .int _) (fun _ _ => rfl)) (de_ix (de_var 1 (pv 1) rfl) (de_con pe_int rfl fun _ => .int _) (fun _ _ => rfl)) (nomark _)))))))⟩
abbrev s_joined : Stmt := topS 16
abbrev N_joined : List Str := ["kind", "value"]
theorem sc_joined : FnScope N_joined ["kind", "value"] (defScope s_joined) := ⟨rfl, rfl, rfl, by decide +kernel, rfl, by decide +kernel, by decide +kernel⟩
theorem ok_joined (T : Txt K mg) (h : Has K mg "joined" s_joined) (o_has : Ok P w K mg base "has" 2 2 has_D) : Ok P w K mg base "joined" 3 2 joined_D := by
  refine ok_def h sc_joined rfl (fun _ _ _ _ _ _ us hl => match us, hl with | [_, _], _ => rfl) fun f cdv A outer s H E hr => ?_
  exact ⟨_, (dss_cons (ds_if (dt_val (de_call o_has hr (by decide) rfl (da_cons (de_var 0 (pv 0) rfl) (da_cons (de_var 1 (pv 1) rfl) (da_nil rfl))))) (dss_one (ds_ret (de_var 0 (pv 0) rfl))) dss_nil)
    (dss_cons (ds_if (dt_w (dw_and (dt_cmp (c_eq hr rfl) (de_ix (de_var 0 (pv 0) rfl) (de_con pe_int rfl fun _ => .int _) (fun _ _ => rfl)) (de_glob rfl T.c_CONSTANT rfl) (nomark _)) (dw_and1 (dt_cmp (c_eq hr rfl) (de_ix (de_var 0 (pv 0) rfl) (de_con pe_int rfl fun _ => .int _) (fun _ _ => rfl)) (de_ix (de_var 1 (pv 1) rfl) (de_con pe_int rfl fun _ => .int _) (fun _ _ => rfl)) (nomark _))))) (dss_one (ds_ret (de_tup (da_cons (de_ix (de_var 1 (pv 1) rfl) (de_con pe_int rfl fun _ => .int _) (fun _ _ => rfl)) (da_nil rfl))))) dss_nil)
    (dss_one (ds_ret (de_tup (da_cons (de_glob rfl T.c_ANYTHING rfl) (da_nil rfl)))))))⟩
abbrev s_is_name : Stmt := topS 20
abbrev N_is_name : List Str := ["number"]
theorem sc_is_name : FnScope N_is_name ["number"] (defScope s_is_name) := ⟨rfl, rfl, rfl, by decide +kernel, rfl, by decide +kernel, by decide +kernel⟩
theorem ok_is_name (T : Txt K mg) (h : Has K mg "is_name" s_is_name)  : Ok P w K mg base "is_name" 1 1 is_name_D := by
  refine ok_def h sc_is_name rfl (fun _ _ _ _ _ _ us hl => match us, hl with | [_], _ => rfl) fun f cdv A outer s H E hr => ?_
  exact ⟨_, (dss_one (ds_ret (de_chain c_le c_le (de_con pe_int rfl fun _ => .int _) (de_var 0 (pv 0) rfl) (de_glob rfl T.c_LAST_NAME rfl))))⟩
abbrev s_is_zero_or_one : Stmt := topS 21
abbrev N_is_zero_or_one : List Str := ["number"]
theorem sc_is_zero_or_one : FnScope N_is_zero_or_one ["number"] (defScope s_is_zero_or_one) := ⟨rfl, rfl, rfl, by decide +kernel, rfl, by decide +kernel, by decide +kernel⟩
theorem ok_is_zero_or_one (T : Txt K mg) (h : Has K mg "is_zero_or_one" s_is_zero_or_one)  : Ok P w K mg base "is_zero_or_one" 1 1 is_zero_or_one_D := by
  refine ok_def h sc_is_zero_or_one rfl (fun _ _ _ _ _ _ us hl => match us, hl with | [_], _ => rfl) fun f cdv A outer s H E hr => ?_
  exact ⟨_, (dss_one (ds_ret (de_chain c_le c_le (de_con pe_int rfl fun _ => .int _) (de_var 0 (pv 0) rfl) (de_con pe_int rfl fun _ => .int _))))⟩
abbrev s_is_field : Stmt := topS 22
abbrev N_is_field : List Str := ["field", "name", "is_reader", "value"]
theorem sc_is_field : FnScope N_is_field ["field"] (defScope s_is_field) := ⟨rfl, rfl, rfl, by decide +kernel, rfl, by decide +kernel, by decide +kernel⟩
theorem ok_is_field (T : Txt K mg) (h : Has K mg "is_field" s_is_field) (o_is_name : Ok P w K mg base "is_name" 1 1 is_name_D) (o_is_zero_or_one : Ok P w K mg base "is_zero_or_one" 1 1 is_zero_or_one_D) (o_is_value : Ok P w K mg base "is_value" 1 1 is_value_D) : Ok P w K mg base "is_field" 2 1 is_field_D := by
  refine ok_def h sc_is_field rfl (fun _ _ _ _ _ _ us hl => match us, hl with | [_], _ => rfl) fun f cdv A outer s H E hr => ?_
  exact ⟨_, (dss_cons (ds_asg (de_var 0 (pv 0) rfl) (dg_tup (is := [1, 2, 3]) rfl rfl (dgs_cons (pg_name (i := 1) sc_is_field.nd rfl (Or.inl rfl)) (dgs_cons (pg_name (i := 2) sc_is_field.nd rfl (Or.inl rfl)) (dgs_cons (pg_name (i := 3) sc_is_field.nd rfl (Or.inl rfl)) dgs_nil)))))
    (dss_one (ds_ret (de_and (de_call o_is_name hr (by decide) rfl (da_cons (de_var 1 (pv 1) rfl) (da_nil rfl))) (de_and (de_call o_is_zero_or_one hr (by decide) rfl (da_cons (de_var 2 (pv 2) rfl) (da_nil rfl))) (de_one (de_call o_is_value hr (by decide) rfl (da_cons (de_var 3 (pv 3) rfl) (da_nil rfl)))))))))⟩
abbrev s_field_at : Stmt := topS 23
abbrev N_field_at : List Str := ["numbers", "at"]
theorem sc_field_at : FnScope N_field_at ["numbers", "at"] (defScope s_field_at) := ⟨rfl, rfl, rfl, by decide +kernel, rfl, by decide +kernel, by decide +kernel⟩
theorem ok_field_at (T : Txt K mg) (h : Has K mg "field_at" s_field_at)  : Ok P w K mg base "field_at" 1 2 field_at_D := by
  refine ok_def h sc_field_at rfl (fun _ _ _ _ _ _ us hl => match us, hl with | [_, _], _ => rfl) fun f cdv A outer s H E hr => ?_
  exact ⟨_, (dss_one (ds_ret (de_tup (da_cons (de_ix (de_var 0 (pv 0) rfl) (de_var 1 (pv 1) rfl) (fun _ _ => rfl)) (da_cons (de_ix (de_var 0 (pv 0) rfl) (de_plus (de_var 1 (pv 1) rfl) (de_con pe_int rfl fun _ => .int _)) (fun _ _ => rfl)) (da_cons (de_tup (da_cons (de_ix (de_var 0 (pv 0) rfl) (de_plus (de_var 1 (pv 1) rfl) (de_con pe_int rfl fun _ => .int _)) (fun _ _ => rfl)) (da_cons (de_ix (de_var 0 (pv 0) rfl) (de_plus (de_var 1 (pv 1) rfl) (de_con pe_int rfl fun _ => .int _)) (fun _ _ => rfl)) (da_nil rfl)))) (da_nil rfl)))))))⟩
abbrev s_listed_fields : Stmt := topS 24
abbrev N_listed_fields : List Str := ["numbers", "at"]
theorem sc_listed_fields : FnScope N_listed_fields ["numbers"] (defScope s_listed_fields) := ⟨rfl, rfl, rfl, by decide +kernel, rfl, by decide +kernel, by decide +kernel⟩
theorem ok_listed_fields (T : Txt K mg) (h : Has K mg "listed_fields" s_listed_fields) (o_field_at : Ok P w K mg base "field_at" 1 2 field_at_D) : Ok P w K mg base "listed_fields" 2 1 listed_fields_D := by
  refine ok_def h sc_listed_fields rfl (fun _ _ _ _ _ _ us hl => match us, hl with | [_], _ => rfl) fun f cdv A outer s H E hr => ?_
  exact ⟨_, (dss_one (ds_ret (de_tuple rfl T.n_tuple (da_cons (de_lc (own := [("at", 1)]) rfl sc_listed_fields.nd rfl (di_range3 rfl T.n_range (da_cons (de_con pe_int rfl fun _ => .int _) (da_cons (de_len rfl T.n_len (da_cons (de_var 0 (pv 0) rfl) (da_nil rfl))) (da_cons (de_con pe_int rfl fun _ => .int _) (da_nil rfl))))) (blkOk_by (N := N_listed_fields) (sc := defScope s_listed_fields) (own := [("at", 1)]) (by decide +kernel)) (fun _ _ _ _ _ => (dg_name (pg_name (i := 1) sc_listed_fields.nd rfl (Or.inl rfl)))) (fun _ _ _ _ _ => pts_yes) (fun _ _ _ _ _ => (de_call o_field_at hr (by decide) rfl (da_cons (de_var 0 (pv 0) rfl) (da_cons (de_var 1 (pv 1) rfl) (da_nil rfl))))) (by decide)) (da_nil rfl)))))⟩
abbrev s_is_list_of_fields : Stmt := topS 25
abbrev N_is_list_of_fields : List Str := ["numbers", "field"]
theorem sc_is_list_of_fields : FnScope N_is_list_of_fields ["numbers"] (defScope s_is_list_of_fields) := ⟨rfl, rfl, rfl, by decide +kernel, rfl, by decide +kernel, by decide +kernel⟩
theorem ok_is_list_of_fields (T : Txt K mg) (h : Has K mg "is_list_of_fields" s_is_list_of_fields) (o_is_field : Ok P w K mg base "is_field" 2 1 is_field_D) (o_listed_fields : Ok P w K mg base "listed_fields" 2 1 listed_fields_D) : Ok P w K mg base "is_list_of_fields" 3 1 is_list_of_fields_D := by
  refine ok_def h sc_is_list_of_fields rfl (fun _ _ _ _ _ _ us hl => match us, hl with | [_], _ => rfl) fun f cdv A outer s H E hr => ?_
  exact ⟨_, (dss_cons (ds_if (dt_cmp (c_ne hr rfl) (de_mod (de_len rfl T.n_len (da_cons (de_var 0 (pv 0) rfl) (da_nil rfl))) (de_con pe_int rfl fun _ => .int _)) (de_con pe_int rfl fun _ => .int _) (nomark _)) (dss_one (ds_ret (de_con pe_bl rfl fun _ => .bl _))) dss_nil)
    (dss_one (ds_ret (de_all rfl T.n_all rfl (da_cons (de_lc (own := [("field", 1)]) rfl sc_is_list_of_fields.nd rfl (di_tup (de_call o_listed_fields hr (by decide) rfl (da_cons (de_var 0 (pv 0) rfl) (da_nil rfl)))) (blkOk_by (N := N_is_list_of_fields) (sc := defScope s_is_list_of_fields) (own := [("field", 1)]) (by decide +kernel)) (fun _ _ _ _ _ => (dg_name (pg_name (i := 1) sc_is_list_of_fields.nd rfl (Or.inl rfl)))) (fun _ _ _ _ _ => pts_yes) (fun _ _ _ _ _ => (de_call o_is_field hr (by decide) rfl (da_cons (de_var 1 (pv 1) rfl) (da_nil rfl)))) (by decide)) (da_nil rfl))))))⟩
abbrev s_field_place : Stmt := topS 26
abbrev N_field_place : List Str := ["fields", "name", "place", "field"]
theorem sc_field_place : FnScope N_field_place ["fields", "name"] (defScope s_field_place) := ⟨rfl, rfl, rfl, by decide +kernel, rfl, by decide +kernel, by decide +kernel⟩
theorem ok_field_place (T : Txt K mg) (h : Has K mg "field_place" s_field_place)  : Ok P w K mg base "field_place" 1 2 field_place_D := by
  refine ok_def h sc_field_place rfl (fun _ _ _ _ _ _ us hl => match us, hl with | [_, _], _ => rfl) fun f cdv A outer s H E hr => ?_
  exact ⟨_, (dss_cons (ds_for PassesOwn.never rfl (di_enum rfl T.n_enumerate (da_cons (de_var 0 (pv 0) rfl) (da_nil rfl))) (dg_tup (is := [2, 3]) rfl rfl (dgs_cons (pg_name (i := 2) sc_field_place.nd rfl (Or.inl rfl)) (dgs_cons (pg_name (i := 3) sc_field_place.nd rfl (Or.inl rfl)) dgs_nil))) (dss_one (ds_if (dt_cmp (c_eq hr rfl) (de_ix (de_var 3 (pv 3) rfl) (de_con pe_int rfl fun _ => .int _) (fun _ _ => rfl)) (de_var 1 (pv 1) rfl) (nomark _)) (dss_one (ds_ret (de_var 2 (pv 2) rfl))) dss_nil)))
    (dss_one (ds_ret (de_neg (de_con pe_int rfl fun _ => .int _)))))⟩
abbrev s_has_name_twice : Stmt := topS 27
abbrev N_has_name_twice : List Str := ["fields", "place", "field"]
theorem sc_has_name_twice : FnScope N_has_name_twice ["fields"] (defScope s_has_name_twice) := ⟨rfl, rfl, rfl, by decide +kernel, rfl, by decide +kernel, by decide +kernel⟩
theorem ok_has_name_twice (T : Txt K mg) (h : Has K mg "has_name_twice" s_has_name_twice) (o_field_place : Ok P w K mg base "field_place" 1 2 field_place_D) : Ok P w K mg base "has_name_twice" 2 1 has_name_twice_D := by
  refine ok_def h sc_has_name_twice rfl (fun _ _ _ _ _ _ us hl => match us, hl with | [_], _ => rfl) fun f cdv A outer s H E hr => ?_
  exact ⟨_, (dss_cons (ds_for PassesOwn.never rfl (di_enum rfl T.n_enumerate (da_cons (de_var 0 (pv 0) rfl) (da_nil rfl))) (dg_tup (is := [1, 2]) rfl rfl (dgs_cons (pg_name (i := 1) sc_has_name_twice.nd rfl (Or.inl rfl)) (dgs_cons (pg_name (i := 2) sc_has_name_twice.nd rfl (Or.inl rfl)) dgs_nil))) (dss_one (ds_if (dt_cmp c_lt (de_call o_field_place hr (by decide) rfl (da_cons (de_var 0 (pv 0) rfl) (da_cons (de_ix (de_var 2 (pv 2) rfl) (de_con pe_int rfl fun _ => .int _) (fun _ _ => rfl)) (da_nil rfl)))) (de_var 1 (pv 1) rfl) (nomark _)) (dss_one (ds_ret (de_con pe_bl rfl fun _ => .bl _))) dss_nil)))
    (dss_one (ds_ret (de_con pe_bl rfl fun _ => .bl _))))⟩
abbrev s_told_field : Stmt := topS 28
abbrev N_told_field : List Str := ["field", "name", "is_reader", "value"]
theorem sc_told_field : FnScope N_told_field ["field"] (defScope s_told_field) := ⟨rfl, rfl, rfl, by decide +kernel, rfl, by decide +kernel, by decide +kernel⟩
theorem ok_told_field (T : Txt K mg) (h : Has K mg "told_field" s_told_field)  : Ok P w K mg base "told_field" 1 1 told_field_D := by
  refine ok_def h sc_told_field rfl (fun _ _ _ _ _ _ us hl => match us, hl with | [_], _ => rfl) fun f cdv A outer s H E hr => ?_
  exact ⟨_, (dss_cons (ds_asg (de_var 0 (pv 0) rfl) (dg_tup (is := [1, 2, 3]) rfl rfl (dgs_cons (pg_name (i := 1) sc_told_field.nd rfl (Or.inl rfl)) (dgs_cons (pg_name (i := 2) sc_told_field.nd rfl (Or.inl rfl)) (dgs_cons (pg_name (i := 3) sc_told_field.nd rfl (Or.inl rfl)) dgs_nil)))))
    (dss_one (ds_ret (de_lst (da_cons (de_var 1 (pv 1) rfl) (da_cons (de_var 2 (pv 2) rfl) (da_cons (de_ix (de_var 3 (pv 3) rfl) (de_con pe_int rfl fun _ => .int _) (fun _ _ => rfl)) (da_cons (de_ix (de_var 3 (pv 3) rfl) (de_con pe_int rfl fun _ => .int _) (fun _ _ => rfl)) (da_nil rfl)))))))))⟩
abbrev s_bare_shape : Stmt := topS 30
abbrev N_bare_shape : List Str := ["prototype"]
theorem sc_bare_shape : FnScope N_bare_shape ["prototype"] (defScope s_bare_shape) := ⟨rfl, rfl, rfl, by decide +kernel, rfl, by decide +kernel, by decide +kernel⟩
theorem ok_bare_shape (T : Txt K mg) (h : Has K mg "bare_shape" s_bare_shape)  : Ok P w K mg base "bare_shape" 1 1 bare_shape_D := by
  refine ok_def h sc_bare_shape rfl (fun _ _ _ _ _ _ us hl => match us, hl with | [_], _ => rfl) fun f cdv A outer s H E hr => ?_
  exact ⟨_, (dss_one (ds_ret (de_tup (da_cons (de_var 0 (pv 0) rfl) (da_cons (de_tup (da_nil rfl)) (da_nil rfl))))))⟩
abbrev s_constant_shape : Stmt := topS 31
abbrev N_constant_shape : List Str := ["prototype", "fields", "slots", "name", "is_reader", "value"]
theorem sc_constant_shape : FnScope N_constant_shape ["prototype", "fields"] (defScope s_constant_shape) := ⟨rfl, rfl, rfl, by decide +kernel, rfl, by decide +kernel, by decide +kernel⟩
theorem ok_constant_shape (T : Txt K mg) (h : Has K mg "constant_shape" s_constant_shape) (o_constant : Ok P w K mg base "constant" 1 1 constant_D) : Ok P w K mg base "constant_shape" 2 2 constant_shape_D := by
  refine ok_def h sc_constant_shape rfl (fun _ _ _ _ _ _ us hl => match us, hl with | [_, _], _ => rfl) fun f cdv A outer s H E hr => ?_
  exact ⟨_, (dss_cons (ds_set (i := 2) sc_constant_shape.nd rfl (Or.inl rfl) (de_tuple rfl T.n_tuple (da_cons (de_lc (own := [("name", 3), ("is_reader", 4), ("value", 5)]) rfl sc_constant_shape.nd rfl (di_tup (de_var 1 (pv 1) rfl)) (blkOk_by (N := N_constant_shape) (sc := defScope s_constant_shape) (own := [("name", 3), ("is_reader", 4), ("value", 5)]) (by decide +kernel)) (fun _ _ _ _ _ => (dg_tup (is := [3, 4, 5]) rfl rfl (dgs_cons (pg_name (i := 3) sc_constant_shape.nd rfl (Or.inl rfl)) (dgs_cons (pg_name (i := 4) sc_constant_shape.nd rfl (Or.inl rfl)) (dgs_cons (pg_name (i := 5) sc_constant_shape.nd rfl (Or.inl rfl)) dgs_nil))))) (fun _ _ _ _ _ => pts_yes) (fun _ _ _ _ _ => (de_tup (da_cons (de_var 3 (pv 3) rfl) (da_cons (de_var 4 (pv 4) rfl) (da_cons (de_call o_constant hr (by decide) rfl (da_cons (de_var 5 (pv 5) rfl) (da_nil rfl))) (da_nil rfl)))))) (by decide)) (da_nil rfl))))
    (dss_one (ds_ret (de_tup (da_cons (de_var 0 (pv 0) rfl) (da_cons (de_var 2 (pv 2) rfl) (da_nil rfl)))))))⟩
end
end Sb
end
section
set_option Elab.async false
set_option linter.all false
set_option maxRecDepth 100000
set_option maxHeartbeats 4000000
namespace Sb
open PySem PySem.Spec PyProof.Rows L2
section
variable {P : Program} {w : World} {K : PySem.W.Frag} {mg : Str → Option Value} {base : Heap}
abbrev s_with_slot : Stmt := topS 32
abbrev N_with_slot : List Str := ["shape", "slot", "prototype", "slots"]
theorem sc_with_slot : FnScope N_with_slot ["shape", "slot"] (defScope s_with_slot) := ⟨rfl, rfl, rfl, by decide +kernel, rfl, by decide +kernel, by decide +kernel⟩
theorem ok_with_slot (T : Txt K mg) (h : Has K mg "with_slot" s_with_slot)  : Ok P w K mg base "with_slot" 1 2 with_slot_D := by
  refine ok_def h sc_with_slot rfl (fun _ _ _ _ _ _ us hl => match us, hl with | [_, _], _ => rfl) fun f cdv A outer s H E hr => ?_
  exact ⟨_, (dss_cons (ds_asg (de_var 0 (pv 0) rfl) (dg_tup (is := [2, 3]) rfl rfl (dgs_cons (pg_name (i := 2) sc_with_slot.nd rfl (Or.inl rfl)) (dgs_cons (pg_name (i := 3) sc_with_slot.nd rfl (Or.inl rfl)) dgs_nil))))
    (dss_one (ds_ret (de_tup (da_cons (de_var 2 (pv 2) rfl) (da_cons (de_plus (de_var 3 (pv 3) rfl) (de_tup (da_cons (de_var 1 (pv 1) rfl) (da_nil rfl)))) (da_nil rfl)))))))⟩
abbrev s_with_other_slot : Stmt := topS 33
abbrev N_with_other_slot : List Str := ["shape", "place", "slot", "prototype", "slots"]
theorem sc_with_other_slot : FnScope N_with_other_slot ["shape", "place", "slot"] (defScope s_with_other_slot) := ⟨rfl, rfl, rfl, by decide +kernel, rfl, by decide +kernel, by decide +kernel⟩
theorem ok_with_other_slot (T : Txt K mg) (h : Has K mg "with_other_slot" s_with_other_slot)  : Ok P w K mg base "with_other_slot" 1 3 with_other_slot_D := by
  refine ok_def h sc_with_other_slot rfl (fun _ _ _ _ _ _ us hl => match us, hl with | [_, _, _], _ => rfl) fun f cdv A outer s H E hr => ?_
  exact ⟨_, (dss_cons (ds_asg (de_var 0 (pv 0) rfl) (dg_tup (is := [3, 4]) rfl rfl (dgs_cons (pg_name (i := 3) sc_with_other_slot.nd rfl (Or.inl rfl)) (dgs_cons (pg_name (i := 4) sc_with_other_slot.nd rfl (Or.inl rfl)) dgs_nil))))
    (dss_one (ds_ret (de_tup (da_cons (de_var 3 (pv 3) rfl) (da_cons (de_plus (de_plus (de_slice (de_var 4 (pv 4) rfl) dp_none (dp_some (de_var 1 (pv 1) rfl))) (de_tup (da_cons (de_var 2 (pv 2) rfl) (da_nil rfl)))) (de_slice (de_var 4 (pv 4) rfl) (dp_some (de_plus (de_var 1 (pv 1) rfl) (de_con pe_int rfl fun _ => .int _))) dp_none)) (da_nil rfl)))))))⟩
abbrev s_up_to : Stmt := topS 34
abbrev N_up_to : List Str := ["shape", "place", "prototype", "slots"]
theorem sc_up_to : FnScope N_up_to ["shape", "place"] (defScope s_up_to) := ⟨rfl, rfl, rfl, by decide +kernel, rfl, by decide +kernel, by decide +kernel⟩
theorem ok_up_to (T : Txt K mg) (h : Has K mg "up_to" s_up_to)  : Ok P w K mg base "up_to" 1 2 up_to_D := by
  refine ok_def h sc_up_to rfl (fun _ _ _ _ _ _ us hl => match us, hl with | [_, _], _ => rfl) fun f cdv A outer s H E hr => ?_
  exact ⟨_, (dss_cons (ds_asg (de_var 0 (pv 0) rfl) (dg_tup (is := [2, 3]) rfl rfl (dgs_cons (pg_name (i := 2) sc_up_to.nd rfl (Or.inl rfl)) (dgs_cons (pg_name (i := 3) sc_up_to.nd rfl (Or.inl rfl)) dgs_nil))))
    (dss_one (ds_ret (de_tup (da_cons (de_var 2 (pv 2) rfl) (da_cons (de_slice (de_var 3 (pv 3) rfl) dp_none (dp_some (de_var 1 (pv 1) rfl))) (da_nil rfl)))))))⟩
abbrev s_with_prototype : Stmt := topS 35
abbrev N_with_prototype : List Str := ["shape", "prototype"]
theorem sc_with_prototype : FnScope N_with_prototype ["shape", "prototype"] (defScope s_with_prototype) := ⟨rfl, rfl, rfl, by decide +kernel, rfl, by decide +kernel, by decide +kernel⟩
theorem ok_with_prototype (T : Txt K mg) (h : Has K mg "with_prototype" s_with_prototype)  : Ok P w K mg base "with_prototype" 1 2 with_prototype_D := by
  refine ok_def h sc_with_prototype rfl (fun _ _ _ _ _ _ us hl => match us, hl with | [_, _], _ => rfl) fun f cdv A outer s H E hr => ?_
  exact ⟨_, (dss_one (ds_ret (de_tup (da_cons (de_var 1 (pv 1) rfl) (da_cons (de_ix (de_var 0 (pv 0) rfl) (de_con pe_int rfl fun _ => .int _) (fun _ _ => rfl)) (da_nil rfl))))))⟩
abbrev s_has_values : Stmt := topS 36
abbrev N_has_values : List Str := ["shape", "fields", "slot", "field"]
theorem sc_has_values : FnScope N_has_values ["shape", "fields"] (defScope s_has_values) := ⟨rfl, rfl, rfl, by decide +kernel, rfl, by decide +kernel, by decide +kernel⟩
theorem ok_has_values (T : Txt K mg) (h : Has K mg "has_values" s_has_values) (o_has : Ok P w K mg base "has" 2 2 has_D) : Ok P w K mg base "has_values" 3 2 has_values_D := by
  refine ok_def h sc_has_values rfl (fun _ _ _ _ _ _ us hl => match us, hl with | [_, _], _ => rfl) fun f cdv A outer s H E hr => ?_
  exact ⟨_, (dss_one (ds_ret (de_all rfl T.n_all rfl (da_cons (de_lc (own := [("slot", 2), ("field", 3)]) rfl sc_has_values.nd rfl (di_zip rfl T.n_zip (da_cons (de_ix (de_var 0 (pv 0) rfl) (de_con pe_int rfl fun _ => .int _) (fun _ _ => rfl)) (da_cons (de_var 1 (pv 1) rfl) (da_nil rfl)))) (blkOk_by (N := N_has_values) (sc := defScope s_has_values) (own := [("slot", 2), ("field", 3)]) (by decide +kernel)) (fun _ _ _ _ _ => (dg_tup (is := [2, 3]) rfl rfl (dgs_cons (pg_name (i := 2) sc_has_values.nd rfl (Or.inl rfl)) (dgs_cons (pg_name (i := 3) sc_has_values.nd rfl (Or.inl rfl)) dgs_nil)))) (fun _ _ _ _ _ => pts_yes) (fun _ _ _ _ _ => (de_call o_has hr (by decide) rfl (da_cons (de_ix (de_var 2 (pv 2) rfl) (de_con pe_int rfl fun _ => .int _) (fun _ _ => rfl)) (da_cons (de_ix (de_var 3 (pv 3) rfl) (de_con pe_int rfl fun _ => .int _) (fun _ _ => rfl)) (da_nil rfl))))) (by decide)) (da_nil rfl)))))⟩
abbrev s_told_shape : Stmt := topS 37
abbrev N_told_shape : List Str := ["shape", "prototype", "slots", "told", "name", "is_reader", "kind"]
theorem sc_told_shape : FnScope N_told_shape ["shape"] (defScope s_told_shape) := ⟨rfl, rfl, rfl, by decide +kernel, rfl, by decide +kernel, by decide +kernel⟩
theorem ok_told_shape (T : Txt K mg) (h : Has K mg "told_shape" s_told_shape)  : Ok P w K mg base "told_shape" 1 1 told_shape_D := by
  refine ok_def h sc_told_shape rfl (fun _ _ _ _ _ _ us hl => match us, hl with | [_], _ => rfl) fun f cdv A outer s H E hr => ?_
  exact ⟨_, (dss_cons (ds_asg (de_var 0 (pv 0) rfl) (dg_tup (is := [1, 2]) rfl rfl (dgs_cons (pg_name (i := 1) sc_told_shape.nd rfl (Or.inl rfl)) (dgs_cons (pg_name (i := 2) sc_told_shape.nd rfl (Or.inl rfl)) dgs_nil))))
    (dss_cons (ds_ownN (i := 3) sc_told_shape.nd rfl (Or.inl rfl) (da_cons (de_var 1 (pv 1) rfl) (da_cons (de_len rfl T.n_len (da_cons (de_var 2 (pv 2) rfl) (da_nil rfl))) (da_nil rfl))))
    (dss_cons (ds_for PassesOwn.never rfl (di_tup (de_var 2 (pv 2) rfl)) (dg_tup (is := [4, 5, 6]) rfl rfl (dgs_cons (pg_name (i := 4) sc_told_shape.nd rfl (Or.inl rfl)) (dgs_cons (pg_name (i := 5) sc_told_shape.nd rfl (Or.inl rfl)) (dgs_cons (pg_name (i := 6) sc_told_shape.nd rfl (Or.inl rfl)) dgs_nil)))) (dss_cons (ds_app (pv 3) (de_var 4 (pv 4) rfl))
    (dss_cons (ds_app (pv 3) (de_var 5 (pv 5) rfl))
    (dss_one (ds_extT (pv 3) (de_var 6 (pv 6) rfl))))))
    (dss_one (ds_ret (de_var 3 (pv 3) rfl))))))⟩
abbrev s_told_layout : Stmt := topS 38
abbrev N_told_layout : List Str := ["layout"]
theorem sc_told_layout : FnScope N_told_layout ["layout"] (defScope s_told_layout) := ⟨rfl, rfl, rfl, by decide +kernel, rfl, by decide +kernel, by decide +kernel⟩
theorem ok_told_layout (T : Txt K mg) (h : Has K mg "told_layout" s_told_layout) (o_told_shape : Ok P w K mg base "told_shape" 1 1 told_shape_D) : Ok P w K mg base "told_layout" 2 1 told_layout_D := by
  refine ok_def h sc_told_layout rfl (fun _ _ _ _ _ _ us hl => match us, hl with | [_], _ => rfl) fun f cdv A outer s H E hr => ?_
  exact ⟨_, (dss_cons (ds_if (dt_cmp c_is (de_var 0 (pv 0) rfl) (de_con pe_non rfl fun _ => .non) (nomark _)) (dss_one (ds_ret (de_lst (da_cons (de_con pe_int rfl fun _ => .int _) (da_nil rfl))))) dss_nil)
    (dss_one (ds_ret (de_plus (de_lst (da_cons (de_con pe_int rfl fun _ => .int _) (da_nil rfl))) (de_call o_told_shape hr (by decide) rfl (da_cons (de_var 0 (pv 0) rfl) (da_nil rfl)))))))⟩
abbrev s_how_many_shapes : Stmt := topS 39
abbrev N_how_many_shapes : List Str := ["laid", "seen", "layout"]
theorem sc_how_many_shapes : FnScope N_how_many_shapes ["laid"] (defScope s_how_many_shapes) := ⟨rfl, rfl, rfl, by decide +kernel, rfl, by decide +kernel, by decide +kernel⟩
theorem ok_how_many_shapes (T : Txt K mg) (h : Has K mg "how_many_shapes" s_how_many_shapes)  : Ok P w K mg base "how_many_shapes" 1 1 how_many_shapes_D := by
  refine ok_def h sc_how_many_shapes rfl (fun _ _ _ _ _ _ us hl => match us, hl with | [_], _ => rfl) fun f cdv A outer s H E hr => ?_
  exact ⟨_, (dss_cons (ds_ownN (i := 1) sc_how_many_shapes.nd rfl (Or.inl rfl) (da_nil rfl))
    (dss_cons (ds_for PassesOwn.never rfl (di_list (de_var 0 (pv 0) rfl)) (dg_name (pg_name (i := 2) sc_how_many_shapes.nd rfl (Or.inl rfl))) (dss_one (ds_if (dt_w (dw_and (dt_cmp c_isNot (de_var 2 (pv 2) rfl) (de_con pe_non rfl fun _ => .non) (nomark _)) (dw_and1 (dt_cmp (c_notIn hr rfl) (de_var 2 (pv 2) rfl) (de_var 1 (pv 1) rfl) rfl)))) (dss_one (ds_app (pv 1) (de_var 2 (pv 2) rfl))) dss_nil)))
    (dss_one (ds_ret (de_len rfl T.n_len (da_cons (de_var 1 (pv 1) rfl) (da_nil rfl)))))))⟩
abbrev s_is_head : Stmt := topS 41
abbrev N_is_head : List Str := ["claim", "at"]
theorem sc_is_head : FnScope N_is_head ["claim", "at"] (defScope s_is_head) := ⟨rfl, rfl, rfl, by decide +kernel, rfl, by decide +kernel, by decide +kernel⟩
theorem ok_is_head (T : Txt K mg) (h : Has K mg "is_head" s_is_head)  : Ok P w K mg base "is_head" 1 2 is_head_D := by
  refine ok_def h sc_is_head rfl (fun _ _ _ _ _ _ us hl => match us, hl with | [_, _], _ => rfl) fun f cdv A outer s H E hr => ?_
  exact ⟨_, (dss_one (ds_ret (de_and (de_cmp c_lt (de_plus (de_var 1 (pv 1) rfl) (de_con pe_int rfl fun _ => .int _)) (de_len rfl T.n_len (da_cons (de_var 0 (pv 0) rfl) (da_nil rfl))) (nomark _)) (de_and (de_chain c_le c_le (de_neg (de_con pe_int rfl fun _ => .int _)) (de_ix (de_var 0 (pv 0) rfl) (de_var 1 (pv 1) rfl) (fun _ _ => rfl)) (de_glob rfl T.c_LAST_ADDRESS rfl)) (de_one (de_chain c_le c_le (de_con pe_int rfl fun _ => .int _) (de_ix (de_var 0 (pv 0) rfl) (de_plus (de_var 1 (pv 1) rfl) (de_con pe_int rfl fun _ => .int _)) (fun _ _ => rfl)) (de_glob rfl T.c_MOST_FIELDS rfl)))))))⟩
abbrev s_kind_end : Stmt := topS 42
abbrev N_kind_end : List Str := ["claim", "at"]
theorem sc_kind_end : FnScope N_kind_end ["claim", "at"] (defScope s_kind_end) := ⟨rfl, rfl, rfl, by decide +kernel, rfl, by decide +kernel, by decide +kernel⟩
theorem ok_kind_end (T : Txt K mg) (h : Has K mg "kind_end" s_kind_end) (o_is_value : Ok P w K mg base "is_value" 1 1 is_value_D) : Ok P w K mg base "kind_end" 2 2 kind_end_D := by
  refine ok_def h sc_kind_end rfl (fun _ _ _ _ _ _ us hl => match us, hl with | [_, _], _ => rfl) fun f cdv A outer s H E hr => ?_
  exact ⟨_, (dss_cons (ds_if (dt_w (dw_and (dt_cmp c_lt (de_var 1 (pv 1) rfl) (de_len rfl T.n_len (da_cons (de_var 0 (pv 0) rfl) (da_nil rfl))) (nomark _)) (dw_and1 (dt_chain c_le c_le (de_con pe_int rfl fun _ => .int _) (de_ix (de_var 0 (pv 0) rfl) (de_var 1 (pv 1) rfl) (fun _ _ => rfl)) (de_glob rfl T.c_ANYTHING rfl))))) (dss_one (ds_ret (de_plus (de_var 1 (pv 1) rfl) (de_con pe_int rfl fun _ => .int _)))) dss_nil)
    (dss_cons (ds_if (dt_w (dw_and (dt_cmp c_lt (de_plus (de_var 1 (pv 1) rfl) (de_con pe_int rfl fun _ => .int _)) (de_len rfl T.n_len (da_cons (de_var 0 (pv 0) rfl) (da_nil rfl))) (nomark _)) (dw_and (dt_cmp (c_eq hr rfl) (de_ix (de_var 0 (pv 0) rfl) (de_var 1 (pv 1) rfl) (fun _ _ => rfl)) (de_glob rfl T.c_CONSTANT rfl) (nomark _)) (dw_and1 (dt_val (de_call o_is_value hr (by decide) rfl (da_cons (de_tup (da_cons (de_ix (de_var 0 (pv 0) rfl) (de_plus (de_var 1 (pv 1) rfl) (de_con pe_int rfl fun _ => .int _)) (fun _ _ => rfl)) (da_cons (de_ix (de_var 0 (pv 0) rfl) (de_plus (de_var 1 (pv 1) rfl) (de_con pe_int rfl fun _ => .int _)) (fun _ _ => rfl)) (da_nil rfl)))) (da_nil rfl)))))))) (dss_one (ds_ret (de_plus (de_var 1 (pv 1) rfl) (de_con pe_int rfl fun _ => .int _)))) dss_nil)
    (dss_one (ds_ret (de_neg (de_con pe_int rfl fun _ => .int _))))))⟩
abbrev s_slot_end : Stmt := topS 43
abbrev N_slot_end : List Str := ["claim", "at", "end"]
theorem sc_slot_end : FnScope N_slot_end ["claim", "at"] (defScope s_slot_end) := ⟨rfl, rfl, rfl, by decide +kernel, rfl, by decide +kernel, by decide +kernel⟩
theorem ok_slot_end (T : Txt K mg) (h : Has K mg "slot_end" s_slot_end) (o_kind_end : Ok P w K mg base "kind_end" 2 2 kind_end_D) (o_is_name : Ok P w K mg base "is_name" 1 1 is_name_D) (o_is_zero_or_one : Ok P w K mg base "is_zero_or_one" 1 1 is_zero_or_one_D) (o_is_value : Ok P w K mg base "is_value" 1 1 is_value_D) : Ok P w K mg base "slot_end" 3 2 slot_end_D := by
  refine ok_def h sc_slot_end rfl (fun _ _ _ _ _ _ us hl => match us, hl with | [_, _], _ => rfl) fun f cdv A outer s H E hr => ?_
  exact ⟨_, (dss_cons (ds_if (dt_w (dw_or (dt_cmp c_ge (de_plus (de_var 1 (pv 1) rfl) (de_con pe_int rfl fun _ => .int _)) (de_len rfl T.n_len (da_cons (de_var 0 (pv 0) rfl) (da_nil rfl))) (nomark _)) (dw_or (dt_not (dt_val (de_call o_is_name hr (by decide) rfl (da_cons (de_ix (de_var 0 (pv 0) rfl) (de_var 1 (pv 1) rfl) (fun _ _ => rfl)) (da_nil rfl))))) (dw_or1 (dt_not (dt_val (de_call o_is_zero_or_one hr (by decide) rfl (da_cons (de_ix (de_var 0 (pv 0) rfl) (de_plus (de_var 1 (pv 1) rfl) (de_con pe_int rfl fun _ => .int _)) (fun _ _ => rfl)) (da_nil rfl))))))))) (dss_one (ds_ret (de_neg (de_con pe_int rfl fun _ => .int _)))) dss_nil)
    (dss_cons (ds_set (i := 2) sc_slot_end.nd rfl (Or.inl rfl) (de_call o_kind_end hr (by decide) rfl (da_cons (de_var 0 (pv 0) rfl) (da_cons (de_plus (de_var 1 (pv 1) rfl) (de_con pe_int rfl fun _ => .int _)) (da_nil rfl)))))
    (dss_cons (ds_if (dt_w (dw_or (dt_cmp c_lt (de_var 2 (pv 2) rfl) (de_con pe_int rfl fun _ => .int _) (nomark _)) (dw_or (dt_cmp c_ge (de_plus (de_var 2 (pv 2) rfl) (de_con pe_int rfl fun _ => .int _)) (de_len rfl T.n_len (da_cons (de_var 0 (pv 0) rfl) (da_nil rfl))) (nomark _)) (dw_or1 (dt_not (dt_val (de_call o_is_value hr (by decide) rfl (da_cons (de_tup (da_cons (de_ix (de_var 0 (pv 0) rfl) (de_var 2 (pv 2) rfl) (fun _ _ => rfl)) (da_cons (de_ix (de_var 0 (pv 0) rfl) (de_plus (de_var 2 (pv 2) rfl) (de_con pe_int rfl fun _ => .int _)) (fun _ _ => rfl)) (da_nil rfl)))) (da_nil rfl))))))))) (dss_one (ds_ret (de_neg (de_con pe_int rfl fun _ => .int _)))) dss_nil)
    (dss_one (ds_ret (de_plus (de_var 2 (pv 2) rfl) (de_con pe_int rfl fun _ => .int _)))))))⟩
abbrev s_claimed_slot : Stmt := topS 44
abbrev N_claimed_slot : List Str := ["claim", "at", "end"]
theorem sc_claimed_slot : FnScope N_claimed_slot ["claim", "at", "end"] (defScope s_claimed_slot) := ⟨rfl, rfl, rfl, by decide +kernel, rfl, by decide +kernel, by decide +kernel⟩
theorem ok_claimed_slot (T : Txt K mg) (h : Has K mg "claimed_slot" s_claimed_slot)  : Ok P w K mg base "claimed_slot" 1 3 claimed_slot_D := by
  refine ok_def h sc_claimed_slot rfl (fun _ _ _ _ _ _ us hl => match us, hl with | [_, _, _], _ => rfl) fun f cdv A outer s H E hr => ?_
  exact ⟨_, (dss_one (ds_ret (de_tup (da_cons (de_ix (de_var 0 (pv 0) rfl) (de_var 1 (pv 1) rfl) (fun _ _ => rfl)) (da_cons (de_ix (de_var 0 (pv 0) rfl) (de_plus (de_var 1 (pv 1) rfl) (de_con pe_int rfl fun _ => .int _)) (fun _ _ => rfl)) (da_cons (de_tuple rfl T.n_tuple (da_cons (de_slice (de_var 0 (pv 0) rfl) (dp_some (de_plus (de_var 1 (pv 1) rfl) (de_con pe_int rfl fun _ => .int _))) (dp_some (de_minus (de_var 2 (pv 2) rfl) (de_con pe_int rfl fun _ => .int _)))) (da_nil rfl))) (da_nil rfl)))))))⟩
abbrev s_claimed_field : Stmt := topS 45
abbrev N_claimed_field : List Str := ["claim", "at", "end"]
theorem sc_claimed_field : FnScope N_claimed_field ["claim", "at", "end"] (defScope s_claimed_field) := ⟨rfl, rfl, rfl, by decide +kernel, rfl, by decide +kernel, by decide +kernel⟩
theorem ok_claimed_field (T : Txt K mg) (h : Has K mg "claimed_field" s_claimed_field)  : Ok P w K mg base "claimed_field" 1 3 claimed_field_D := by
  refine ok_def h sc_claimed_field rfl (fun _ _ _ _ _ _ us hl => match us, hl with | [_, _, _], _ => rfl) fun f cdv A outer s H E hr => ?_
  exact ⟨_, (dss_one (ds_ret (de_tup (da_cons (de_ix (de_var 0 (pv 0) rfl) (de_var 1 (pv 1) rfl) (fun _ _ => rfl)) (da_cons (de_ix (de_var 0 (pv 0) rfl) (de_plus (de_var 1 (pv 1) rfl) (de_con pe_int rfl fun _ => .int _)) (fun _ _ => rfl)) (da_cons (de_tup (da_cons (de_ix (de_var 0 (pv 0) rfl) (de_minus (de_var 2 (pv 2) rfl) (de_con pe_int rfl fun _ => .int _)) (fun _ _ => rfl)) (da_cons (de_ix (de_var 0 (pv 0) rfl) (de_minus (de_var 2 (pv 2) rfl) (de_con pe_int rfl fun _ => .int _)) (fun _ _ => rfl)) (da_nil rfl)))) (da_nil rfl)))))))⟩
abbrev s_claimed_thing : Stmt := topS 46
abbrev N_claimed_thing : List Str := ["claim", "at", "fields", "slots", "end", "turn", "begin"]
theorem sc_claimed_thing : FnScope N_claimed_thing ["claim", "at"] (defScope s_claimed_thing) := ⟨rfl, rfl, rfl, by decide +kernel, rfl, by decide +kernel, by decide +kernel⟩
theorem ok_claimed_thing (T : Txt K mg) (h : Has K mg "claimed_thing" s_claimed_thing) (o_is_head : Ok P w K mg base "is_head" 1 2 is_head_D) (o_slot_end : Ok P w K mg base "slot_end" 3 2 slot_end_D) (o_claimed_field : Ok P w K mg base "claimed_field" 1 3 claimed_field_D) (o_claimed_slot : Ok P w K mg base "claimed_slot" 1 3 claimed_slot_D) : Ok P w K mg base "claimed_thing" 4 2 claimed_thing_D := by
  refine ok_def h sc_claimed_thing rfl (fun _ _ _ _ _ _ us hl => match us, hl with | [_, _], _ => rfl) fun f cdv A outer s H E hr => ?_
  exact ⟨_, (dss_cons (ds_if (dt_not (dt_val (de_call o_is_head hr (by decide) rfl (da_cons (de_var 0 (pv 0) rfl) (da_cons (de_var 1 (pv 1) rfl) (da_nil rfl)))))) (dss_one (ds_ret (de_tup (da_cons (de_neg (de_con pe_int rfl fun _ => .int _)) (da_cons (de_con pe_non rfl fun _ => .non) (da_nil rfl)))))) dss_nil)
    (dss_cons (ds_set (i := 2) sc_claimed_thing.nd rfl (Or.inl rfl) (de_tup (da_nil rfl)))
    (dss_cons (ds_set (i := 3) sc_claimed_thing.nd rfl (Or.inl rfl) (de_tup (da_nil rfl)))
    (dss_cons (ds_set (i := 4) sc_claimed_thing.nd rfl (Or.inl rfl) (de_plus (de_var 1 (pv 1) rfl) (de_con pe_int rfl fun _ => .int _)))
    (dss_cons (ds_for PassesOwn.never rfl (di_range1 rfl T.n_range (da_cons (de_ix (de_var 0 (pv 0) rfl) (de_plus (de_var 1 (pv 1) rfl) (de_con pe_int rfl fun _ => .int _)) (fun _ _ => rfl)) (da_nil rfl))) (dg_name (pg_name (i := 5) sc_claimed_thing.nd rfl (Or.inl rfl))) (dss_cons (ds_set (i := 6) sc_claimed_thing.nd rfl (Or.inl rfl) (de_var 4 (pv 4) rfl))
    (dss_cons (ds_set (i := 4) sc_claimed_thing.nd rfl (Or.inl rfl) (de_call o_slot_end hr (by decide) rfl (da_cons (de_var 0 (pv 0) rfl) (da_cons (de_var 6 (pv 6) rfl) (da_nil rfl)))))
    (dss_cons (ds_if (dt_cmp c_lt (de_var 4 (pv 4) rfl) (de_con pe_int rfl fun _ => .int _) (nomark _)) (dss_one (ds_ret (de_tup (da_cons (de_neg (de_con pe_int rfl fun _ => .int _)) (da_cons (de_con pe_non rfl fun _ => .non) (da_nil rfl)))))) dss_nil)
    (dss_cons (ds_set (i := 2) sc_claimed_thing.nd rfl (Or.inl rfl) (de_plus (de_var 2 (pv 2) rfl) (de_tup (da_cons (de_call o_claimed_field hr (by decide) rfl (da_cons (de_var 0 (pv 0) rfl) (da_cons (de_var 6 (pv 6) rfl) (da_cons (de_var 4 (pv 4) rfl) (da_nil rfl))))) (da_nil rfl)))))
    (dss_one (ds_set (i := 3) sc_claimed_thing.nd rfl (Or.inl rfl) (de_plus (de_var 3 (pv 3) rfl) (de_tup (da_cons (de_call o_claimed_slot hr (by decide) rfl (da_cons (de_var 0 (pv 0) rfl) (da_cons (de_var 6 (pv 6) rfl) (da_cons (de_var 4 (pv 4) rfl) (da_nil rfl))))) (da_nil rfl)))))))))))
    (dss_one (ds_ret (de_tup (da_cons (de_var 4 (pv 4) rfl) (da_cons (de_tup (da_cons (de_ix (de_var 0 (pv 0) rfl) (de_var 1 (pv 1) rfl) (fun _ _ => rfl)) (da_cons (de_var 2 (pv 2) rfl) (da_cons (de_tup (da_cons (de_ix (de_var 0 (pv 0) rfl) (de_var 1 (pv 1) rfl) (fun _ _ => rfl)) (da_cons (de_var 3 (pv 3) rfl) (da_nil rfl)))) (da_nil rfl))))) (da_nil rfl)))))))))))⟩
abbrev s_claimed_things : Stmt := topS 47
abbrev N_claimed_things : List Str := ["claim", "count", "claimed", "at", "turn", "thing"]
theorem sc_claimed_things : FnScope N_claimed_things ["claim", "count"] (defScope s_claimed_things) := ⟨rfl, rfl, rfl, by decide +kernel, rfl, by decide +kernel, by decide +kernel⟩
theorem ok_claimed_things (T : Txt K mg) (h : Has K mg "claimed_things" s_claimed_things) (o_claimed_thing : Ok P w K mg base "claimed_thing" 4 2 claimed_thing_D) : Ok P w K mg base "claimed_things" 5 2 claimed_things_D := by
  refine ok_def h sc_claimed_things rfl (fun _ _ _ _ _ _ us hl => match us, hl with | [_, _], _ => rfl) fun f cdv A outer s H E hr => ?_
  exact ⟨_, (dss_cons (ds_set (i := 2) sc_claimed_things.nd rfl (Or.inl rfl) (de_tup (da_nil rfl)))
    (dss_cons (ds_set (i := 3) sc_claimed_things.nd rfl (Or.inl rfl) (de_con pe_int rfl fun _ => .int _))
    (dss_cons (ds_for PassesOwn.never rfl (di_range1 rfl T.n_range (da_cons (de_var 1 (pv 1) rfl) (da_nil rfl))) (dg_name (pg_name (i := 4) sc_claimed_things.nd rfl (Or.inl rfl))) (dss_cons (ds_asg (de_call o_claimed_thing hr (by decide) rfl (da_cons (de_var 0 (pv 0) rfl) (da_cons (de_var 3 (pv 3) rfl) (da_nil rfl)))) (dg_tup (is := [3, 5]) rfl rfl (dgs_cons (pg_name (i := 3) sc_claimed_things.nd rfl (Or.inl rfl)) (dgs_cons (pg_name (i := 5) sc_claimed_things.nd rfl (Or.inl rfl)) dgs_nil))))
    (dss_cons (ds_if (dt_cmp c_lt (de_var 3 (pv 3) rfl) (de_con pe_int rfl fun _ => .int _) (nomark _)) (dss_one (ds_ret (de_con pe_non rfl fun _ => .non))) dss_nil)
    (dss_one (ds_set (i := 2) sc_claimed_things.nd rfl (Or.inl rfl) (de_plus (de_var 2 (pv 2) rfl) (de_tup (da_cons (de_var 5 (pv 5) rfl) (da_nil rfl)))))))))
    (dss_cons (ds_if (dt_cmp c_lt (de_var 3 (pv 3) rfl) (de_len rfl T.n_len (da_cons (de_var 0 (pv 0) rfl) (da_nil rfl))) (nomark _)) (dss_one (ds_ret (de_con pe_non rfl fun _ => .non))) dss_nil)
    (dss_one (ds_ret (de_var 2 (pv 2) rfl)))))))⟩
end
end Sb
end
section
set_option Elab.async false
set_option linter.all false
set_option maxRecDepth 100000
set_option maxHeartbeats 4000000
namespace Sb
open PySem PySem.Spec PyProof.Rows L2
section
variable {P : Program} {w : World} {K : PySem.W.Frag} {mg : Str → Option Value} {base : Heap}
abbrev s_fault_of : Stmt := topS 48
abbrev N_fault_of : List Str := ["claimed", "thing", "prototype", "fields", "shape"]
theorem sc_fault_of : FnScope N_fault_of ["claimed", "thing"] (defScope s_fault_of) := ⟨rfl, rfl, rfl, by decide +kernel, rfl, by decide +kernel, by decide +kernel⟩
theorem ok_fault_of (T : Txt K mg) (h : Has K mg "fault_of" s_fault_of) (o_has_name_twice : Ok P w K mg base "has_name_twice" 2 1 has_name_twice_D) (o_has_values : Ok P w K mg base "has_values" 3 2 has_values_D) : Ok P w K mg base "fault_of" 4 2 fault_of_D := by
  refine ok_def h sc_fault_of rfl (fun _ _ _ _ _ _ us hl => match us, hl with | [_, _], _ => rfl) fun f cdv A outer s H E hr => ?_
  exact ⟨_, (dss_cons (ds_asg (de_var 0 (pv 0) rfl) (dg_tup (is := [2, 3, 4]) rfl rfl (dgs_cons (pg_name (i := 2) sc_fault_of.nd rfl (Or.inl rfl)) (dgs_cons (pg_name (i := 3) sc_fault_of.nd rfl (Or.inl rfl)) (dgs_cons (pg_name (i := 4) sc_fault_of.nd rfl (Or.inl rfl)) dgs_nil)))))
    (dss_cons (ds_if (dt_w (dw_or (dt_not (dt_val (de_call o_has_values hr (by decide) rfl (da_cons (de_var 4 (pv 4) rfl) (da_cons (de_var 3 (pv 3) rfl) (da_nil rfl)))))) (dw_or1 (dt_val (de_call o_has_name_twice hr (by decide) rfl (da_cons (de_var 3 (pv 3) rfl) (da_nil rfl))))))) (dss_one (ds_ret (de_con pe_int rfl fun _ => .int _))) dss_nil)
    (dss_cons (ds_if (dt_w (dw_or (dt_cmp (c_ne hr rfl) (de_var 2 (pv 2) rfl) (de_ix (de_var 1 (pv 1) rfl) (de_con pe_int rfl fun _ => .int _) (fun _ _ => rfl)) (nomark _)) (dw_or1 (dt_cmp (c_ne hr rfl) (de_var 3 (pv 3) rfl) (de_ix (de_var 1 (pv 1) rfl) (de_con pe_int rfl fun _ => .int _) (fun _ _ => rfl)) (nomark _))))) (dss_one (ds_ret (de_con pe_int rfl fun _ => .int _))) dss_nil)
    (dss_one (ds_ret (de_con pe_int rfl fun _ => .int _))))))⟩
abbrev s_judge : Stmt := topS 49
abbrev N_judge : List Str := ["things", "claim", "claimed", "address", "thing", "fault", "claimed_one"]
theorem sc_judge : FnScope N_judge ["things", "claim"] (defScope s_judge) := ⟨rfl, rfl, rfl, by decide +kernel, rfl, by decide +kernel, by decide +kernel⟩
theorem ok_judge (T : Txt K mg) (h : Has K mg "judge" s_judge) (o_claimed_things : Ok P w K mg base "claimed_things" 5 2 claimed_things_D) (o_fault_of : Ok P w K mg base "fault_of" 4 2 fault_of_D) (o_how_many_shapes : Ok P w K mg base "how_many_shapes" 1 1 how_many_shapes_D) : Ok P w K mg base "judge" 6 2 judge_D := by
  refine ok_def h sc_judge rfl (fun _ _ _ _ _ _ us hl => match us, hl with | [_, _], _ => rfl) fun f cdv A outer s H E hr => ?_
  exact ⟨_, (dss_cons (ds_set (i := 2) sc_judge.nd rfl (Or.inl rfl) (de_call o_claimed_things hr (by decide) rfl (da_cons (de_var 1 (pv 1) rfl) (da_cons (de_len rfl T.n_len (da_cons (de_var 0 (pv 0) rfl) (da_nil rfl))) (da_nil rfl)))))
    (dss_cons (ds_if (dt_cmp c_is (de_var 2 (pv 2) rfl) (de_con pe_non rfl fun _ => .non) (nomark _)) (dss_one (ds_ret (de_lst (da_cons (de_neg (de_con pe_int rfl fun _ => .int _)) (da_nil rfl))))) dss_nil)
    (dss_cons (ds_for PassesOwn.never rfl (di_enum rfl T.n_enumerate (da_cons (de_var 0 (pv 0) rfl) (da_nil rfl))) (dg_tup (is := [3, 4]) rfl rfl (dgs_cons (pg_name (i := 3) sc_judge.nd rfl (Or.inl rfl)) (dgs_cons (pg_name (i := 4) sc_judge.nd rfl (Or.inl rfl)) dgs_nil))) (dss_cons (ds_set (i := 5) sc_judge.nd rfl (Or.inl rfl) (de_call o_fault_of hr (by decide) rfl (da_cons (de_ix (de_var 2 (pv 2) rfl) (de_var 3 (pv 3) rfl) (fun _ _ => rfl)) (da_cons (de_var 4 (pv 4) rfl) (da_nil rfl)))))
    (dss_one (ds_if (dt_cmp c_gt (de_var 5 (pv 5) rfl) (de_con pe_int rfl fun _ => .int _) (nomark _)) (dss_one (ds_ret (de_lst (da_cons (de_con pe_int rfl fun _ => .int _) (da_cons (de_con pe_int rfl fun _ => .int _) (da_cons (de_var 3 (pv 3) rfl) (da_cons (de_var 5 (pv 5) rfl) (da_nil rfl)))))))) dss_nil))))
    (dss_one (ds_ret (de_lst (da_cons (de_con pe_int rfl fun _ => .int _) (da_cons (de_con pe_int rfl fun _ => .int _) (da_cons (de_call o_how_many_shapes hr (by decide) rfl (da_cons (de_lc (own := [("claimed_one", 6)]) rfl sc_judge.nd rfl (di_tup (de_var 2 (pv 2) rfl)) (blkOk_by (N := N_judge) (sc := defScope s_judge) (own := [("claimed_one", 6)]) (by decide +kernel)) (fun _ _ _ _ _ => (dg_name (pg_name (i := 6) sc_judge.nd rfl (Or.inl rfl)))) (fun _ _ _ _ _ => pts_yes) (fun _ _ _ _ _ => (de_ix (de_var 6 (pv 6) rfl) (de_con pe_int rfl fun _ => .int _) (fun _ _ => rfl))) (by decide)) (da_nil rfl))) (da_nil rfl))))))))))⟩
abbrev s_sister_place : Stmt := topS 52
abbrev N_sister_place : List Str := ["sisters", "shape", "name", "is_reader", "place", "sister"]
theorem sc_sister_place : FnScope N_sister_place ["sisters", "shape", "name", "is_reader"] (defScope s_sister_place) := ⟨rfl, rfl, rfl, by decide +kernel, rfl, by decide +kernel, by decide +kernel⟩
theorem ok_sister_place (T : Txt K mg) (h : Has K mg "sister_place" s_sister_place)  : Ok P w K mg base "sister_place" 1 4 sister_place_D := by
  refine ok_def h sc_sister_place rfl (fun _ _ _ _ _ _ us hl => match us, hl with | [_, _, _, _], _ => rfl) fun f cdv A outer s H E hr => ?_
  exact ⟨_, (dss_cons (ds_for PassesOwn.never rfl (di_enum rfl T.n_enumerate (da_cons (de_var 0 (pv 0) rfl) (da_nil rfl))) (dg_tup (is := [4, 5]) rfl rfl (dgs_cons (pg_name (i := 4) sc_sister_place.nd rfl (Or.inl rfl)) (dgs_cons (pg_name (i := 5) sc_sister_place.nd rfl (Or.inl rfl)) dgs_nil))) (dss_one (ds_if (dt_w (dw_and (dt_cmp (c_eq hr rfl) (de_ix (de_var 5 (pv 5) rfl) (de_con pe_int rfl fun _ => .int _) (fun _ _ => rfl)) (de_var 1 (pv 1) rfl) (nomark _)) (dw_and (dt_cmp (c_eq hr rfl) (de_ix (de_var 5 (pv 5) rfl) (de_con pe_int rfl fun _ => .int _) (fun _ _ => rfl)) (de_var 2 (pv 2) rfl) (nomark _)) (dw_and1 (dt_cmp (c_eq hr rfl) (de_ix (de_var 5 (pv 5) rfl) (de_con pe_int rfl fun _ => .int _) (fun _ _ => rfl)) (de_var 3 (pv 3) rfl) (nomark _)))))) (dss_one (ds_ret (de_var 4 (pv 4) rfl))) dss_nil)))
    (dss_one (ds_ret (de_neg (de_con pe_int rfl fun _ => .int _)))))⟩
abbrev s_with_risen : Stmt := topS 53
abbrev N_with_risen : List Str := ["sisters", "place", "value", "shape", "name", "is_reader", "kind", "risen"]
theorem sc_with_risen : FnScope N_with_risen ["sisters", "place", "value"] (defScope s_with_risen) := ⟨rfl, rfl, rfl, by decide +kernel, rfl, by decide +kernel, by decide +kernel⟩
theorem ok_with_risen (T : Txt K mg) (h : Has K mg "with_risen" s_with_risen) (o_joined : Ok P w K mg base "joined" 3 2 joined_D) : Ok P w K mg base "with_risen" 4 3 with_risen_D := by
  refine ok_def h sc_with_risen rfl (fun _ _ _ _ _ _ us hl => match us, hl with | [_, _, _], _ => rfl) fun f cdv A outer s H E hr => ?_
  exact ⟨_, (dss_cons (ds_asg (de_ix (de_var 0 (pv 0) rfl) (de_var 1 (pv 1) rfl) (fun _ _ => rfl)) (dg_tup (is := [3, 4, 5, 6]) rfl rfl (dgs_cons (pg_name (i := 3) sc_with_risen.nd rfl (Or.inl rfl)) (dgs_cons (pg_name (i := 4) sc_with_risen.nd rfl (Or.inl rfl)) (dgs_cons (pg_name (i := 5) sc_with_risen.nd rfl (Or.inl rfl)) (dgs_cons (pg_name (i := 6) sc_with_risen.nd rfl (Or.inl rfl)) dgs_nil))))))
    (dss_cons (ds_set (i := 7) sc_with_risen.nd rfl (Or.inl rfl) (de_tup (da_cons (de_var 3 (pv 3) rfl) (da_cons (de_var 4 (pv 4) rfl) (da_cons (de_var 5 (pv 5) rfl) (da_cons (de_call o_joined hr (by decide) rfl (da_cons (de_var 6 (pv 6) rfl) (da_cons (de_var 2 (pv 2) rfl) (da_nil rfl)))) (da_nil rfl)))))))
    (dss_one (ds_ret (de_plus (de_plus (de_slice (de_var 0 (pv 0) rfl) dp_none (dp_some (de_var 1 (pv 1) rfl))) (de_tup (da_cons (de_var 7 (pv 7) rfl) (da_nil rfl)))) (de_slice (de_var 0 (pv 0) rfl) (dp_some (de_plus (de_var 1 (pv 1) rfl) (de_con pe_int rfl fun _ => .int _))) dp_none))))))⟩
abbrev s_layout_added : Stmt := topS 54
abbrev N_layout_added : List Str := ["sisters", "layout", "field", "name", "is_reader", "value", "place", "higher", "kind", "sister"]
theorem sc_layout_added : FnScope N_layout_added ["sisters", "layout", "field"] (defScope s_layout_added) := ⟨rfl, rfl, rfl, by decide +kernel, rfl, by decide +kernel, by decide +kernel⟩
theorem ok_layout_added (T : Txt K mg) (h : Has K mg "layout_added" s_layout_added) (o_sister_place : Ok P w K mg base "sister_place" 1 4 sister_place_D) (o_constant : Ok P w K mg base "constant" 1 1 constant_D) (o_with_risen : Ok P w K mg base "with_risen" 4 3 with_risen_D) (o_with_slot : Ok P w K mg base "with_slot" 1 2 with_slot_D) : Ok P w K mg base "layout_added" 5 3 layout_added_D := by
  refine ok_def h sc_layout_added rfl (fun _ _ _ _ _ _ us hl => match us, hl with | [_, _, _], _ => rfl) fun f cdv A outer s H E hr => ?_
  exact ⟨_, (dss_cons (ds_if (dt_cmp c_is (de_var 1 (pv 1) rfl) (de_con pe_non rfl fun _ => .non) (nomark _)) (dss_one (ds_ret (de_tup (da_cons (de_var 0 (pv 0) rfl) (da_cons (de_con pe_non rfl fun _ => .non) (da_nil rfl)))))) dss_nil)
    (dss_cons (ds_asg (de_var 2 (pv 2) rfl) (dg_tup (is := [3, 4, 5]) rfl rfl (dgs_cons (pg_name (i := 3) sc_layout_added.nd rfl (Or.inl rfl)) (dgs_cons (pg_name (i := 4) sc_layout_added.nd rfl (Or.inl rfl)) (dgs_cons (pg_name (i := 5) sc_layout_added.nd rfl (Or.inl rfl)) dgs_nil)))))
    (dss_cons (ds_set (i := 6) sc_layout_added.nd rfl (Or.inl rfl) (de_call o_sister_place hr (by decide) rfl (da_cons (de_var 0 (pv 0) rfl) (da_cons (de_var 1 (pv 1) rfl) (da_cons (de_var 3 (pv 3) rfl) (da_cons (de_var 4 (pv 4) rfl) (da_nil rfl)))))))
    (dss_cons (ds_if (dt_cmp c_ge (de_var 6 (pv 6) rfl) (de_con pe_int rfl fun _ => .int _) (nomark _)) (dss_cons (ds_set (i := 7) sc_layout_added.nd rfl (Or.inl rfl) (de_call o_with_risen hr (by decide) rfl (da_cons (de_var 0 (pv 0) rfl) (da_cons (de_var 6 (pv 6) rfl) (da_cons (de_var 5 (pv 5) rfl) (da_nil rfl))))))
    (dss_one (ds_ret (de_tup (da_cons (de_var 7 (pv 7) rfl) (da_cons (de_call o_with_slot hr (by decide) rfl (da_cons (de_var 1 (pv 1) rfl) (da_cons (de_tup (da_cons (de_var 3 (pv 3) rfl) (da_cons (de_var 4 (pv 4) rfl) (da_cons (de_ix (de_ix (de_var 7 (pv 7) rfl) (de_var 6 (pv 6) rfl) (fun _ _ => rfl)) (de_con pe_int rfl fun _ => .int _) (fun _ _ => rfl)) (da_nil rfl))))) (da_nil rfl)))) (da_nil rfl))))))) dss_nil)
    (dss_cons (ds_if (dt_cmp c_ge (de_len rfl T.n_len (da_cons (de_var 0 (pv 0) rfl) (da_nil rfl))) (de_glob rfl T.c_MOST_SISTERS rfl) (nomark _)) (dss_one (ds_ret (de_tup (da_cons (de_var 0 (pv 0) rfl) (da_cons (de_con pe_non rfl fun _ => .non) (da_nil rfl)))))) dss_nil)
    (dss_cons (ds_set (i := 8) sc_layout_added.nd rfl (Or.inl rfl) (de_call o_constant hr (by decide) rfl (da_cons (de_var 5 (pv 5) rfl) (da_nil rfl))))
    (dss_cons (ds_set (i := 9) sc_layout_added.nd rfl (Or.inl rfl) (de_tup (da_cons (de_var 1 (pv 1) rfl) (da_cons (de_var 3 (pv 3) rfl) (da_cons (de_var 4 (pv 4) rfl) (da_cons (de_var 8 (pv 8) rfl) (da_nil rfl)))))))
    (dss_one (ds_ret (de_tup (da_cons (de_plus (de_var 0 (pv 0) rfl) (de_tup (da_cons (de_var 9 (pv 9) rfl) (da_nil rfl)))) (da_cons (de_call o_with_slot hr (by decide) rfl (da_cons (de_var 1 (pv 1) rfl) (da_cons (de_tup (da_cons (de_var 3 (pv 3) rfl) (da_cons (de_var 4 (pv 4) rfl) (da_cons (de_var 8 (pv 8) rfl) (da_nil rfl))))) (da_nil rfl)))) (da_nil rfl)))))))))))))⟩
abbrev s_layout_replaced : Stmt := topS 55
abbrev N_layout_replaced : List Str := ["sisters", "layout", "place", "field", "name", "is_reader", "value", "slot", "after", "at"]
theorem sc_layout_replaced : FnScope N_layout_replaced ["sisters", "layout", "place", "field"] (defScope s_layout_replaced) := ⟨rfl, rfl, rfl, by decide +kernel, rfl, by decide +kernel, by decide +kernel⟩
theorem ok_layout_replaced (T : Txt K mg) (h : Has K mg "layout_replaced" s_layout_replaced) (o_with_other_slot : Ok P w K mg base "with_other_slot" 1 3 with_other_slot_D) (o_sister_place : Ok P w K mg base "sister_place" 1 4 sister_place_D) (o_up_to : Ok P w K mg base "up_to" 1 2 up_to_D) (o_with_risen : Ok P w K mg base "with_risen" 4 3 with_risen_D) (o_joined : Ok P w K mg base "joined" 3 2 joined_D) (o_constant : Ok P w K mg base "constant" 1 1 constant_D) : Ok P w K mg base "layout_replaced" 5 4 layout_replaced_D := by
  refine ok_def h sc_layout_replaced rfl (fun _ _ _ _ _ _ us hl => match us, hl with | [_, _, _, _], _ => rfl) fun f cdv A outer s H E hr => ?_
  exact ⟨_, (dss_cons (ds_if (dt_cmp c_is (de_var 1 (pv 1) rfl) (de_con pe_non rfl fun _ => .non) (nomark _)) (dss_one (ds_ret (de_tup (da_cons (de_var 0 (pv 0) rfl) (da_cons (de_con pe_non rfl fun _ => .non) (da_nil rfl)))))) dss_nil)
    (dss_cons (ds_asg (de_var 3 (pv 3) rfl) (dg_tup (is := [4, 5, 6]) rfl rfl (dgs_cons (pg_name (i := 4) sc_layout_replaced.nd rfl (Or.inl rfl)) (dgs_cons (pg_name (i := 5) sc_layout_replaced.nd rfl (Or.inl rfl)) (dgs_cons (pg_name (i := 6) sc_layout_replaced.nd rfl (Or.inl rfl)) dgs_nil)))))
    (dss_cons (ds_set (i := 7) sc_layout_replaced.nd rfl (Or.inl rfl) (de_ix (de_ix (de_var 1 (pv 1) rfl) (de_con pe_int rfl fun _ => .int _) (fun _ _ => rfl)) (de_var 2 (pv 2) rfl) (fun _ _ => rfl)))
    (dss_cons (ds_if (dt_cmp (c_ne hr rfl) (de_ix (de_var 7 (pv 7) rfl) (de_con pe_int rfl fun _ => .int _) (fun _ _ => rfl)) (de_var 5 (pv 5) rfl) (nomark _)) (dss_one (ds_ret (de_tup (da_cons (de_var 0 (pv 0) rfl) (da_cons (de_call o_with_other_slot hr (by decide) rfl (da_cons (de_var 1 (pv 1) rfl) (da_cons (de_var 2 (pv 2) rfl) (da_cons (de_tup (da_cons (de_var 4 (pv 4) rfl) (da_cons (de_var 5 (pv 5) rfl) (da_cons (de_call o_constant hr (by decide) rfl (da_cons (de_var 6 (pv 6) rfl) (da_nil rfl))) (da_nil rfl))))) (da_nil rfl))))) (da_nil rfl)))))) dss_nil)
    (dss_cons (ds_set (i := 8) sc_layout_replaced.nd rfl (Or.inl rfl) (de_call o_with_other_slot hr (by decide) rfl (da_cons (de_var 1 (pv 1) rfl) (da_cons (de_var 2 (pv 2) rfl) (da_cons (de_tup (da_cons (de_var 4 (pv 4) rfl) (da_cons (de_var 5 (pv 5) rfl) (da_cons (de_call o_joined hr (by decide) rfl (da_cons (de_ix (de_var 7 (pv 7) rfl) (de_con pe_int rfl fun _ => .int _) (fun _ _ => rfl)) (da_cons (de_var 6 (pv 6) rfl) (da_nil rfl)))) (da_nil rfl))))) (da_nil rfl))))))
    (dss_cons (ds_set (i := 9) sc_layout_replaced.nd rfl (Or.inl rfl) (de_call o_sister_place hr (by decide) rfl (da_cons (de_var 0 (pv 0) rfl) (da_cons (de_call o_up_to hr (by decide) rfl (da_cons (de_var 1 (pv 1) rfl) (da_cons (de_var 2 (pv 2) rfl) (da_nil rfl)))) (da_cons (de_var 4 (pv 4) rfl) (da_cons (de_var 5 (pv 5) rfl) (da_nil rfl)))))))
    (dss_cons (ds_if (dt_cmp c_lt (de_var 9 (pv 9) rfl) (de_con pe_int rfl fun _ => .int _) (nomark _)) (dss_one (ds_ret (de_tup (da_cons (de_var 0 (pv 0) rfl) (da_cons (de_var 8 (pv 8) rfl) (da_nil rfl)))))) dss_nil)
    (dss_one (ds_ret (de_tup (da_cons (de_call o_with_risen hr (by decide) rfl (da_cons (de_var 0 (pv 0) rfl) (da_cons (de_var 9 (pv 9) rfl) (da_cons (de_var 6 (pv 6) rfl) (da_nil rfl))))) (da_cons (de_var 8 (pv 8) rfl) (da_nil rfl)))))))))))))⟩
abbrev s_layout_removed : Stmt := topS 56
abbrev N_layout_removed : List Str := ["layout", "place"]
theorem sc_layout_removed : FnScope N_layout_removed ["layout", "place"] (defScope s_layout_removed) := ⟨rfl, rfl, rfl, by decide +kernel, rfl, by decide +kernel, by decide +kernel⟩
theorem ok_layout_removed (T : Txt K mg) (h : Has K mg "layout_removed" s_layout_removed) (o_up_to : Ok P w K mg base "up_to" 1 2 up_to_D) : Ok P w K mg base "layout_removed" 2 2 layout_removed_D := by
  refine ok_def h sc_layout_removed rfl (fun _ _ _ _ _ _ us hl => match us, hl with | [_, _], _ => rfl) fun f cdv A outer s H E hr => ?_
  exact ⟨_, (dss_cons (ds_if (dt_w (dw_or (dt_cmp c_is (de_var 0 (pv 0) rfl) (de_con pe_non rfl fun _ => .non) (nomark _)) (dw_or1 (dt_cmp c_lt (de_var 1 (pv 1) rfl) (de_minus (de_len rfl T.n_len (da_cons (de_ix (de_var 0 (pv 0) rfl) (de_con pe_int rfl fun _ => .int _) (fun _ _ => rfl)) (da_nil rfl))) (de_con pe_int rfl fun _ => .int _)) (nomark _))))) (dss_one (ds_ret (de_con pe_non rfl fun _ => .non))) dss_nil)
    (dss_one (ds_ret (de_call o_up_to hr (by decide) rfl (da_cons (de_var 0 (pv 0) rfl) (da_cons (de_var 1 (pv 1) rfl) (da_nil rfl)))))))⟩
abbrev s_layout_linked : Stmt := topS 57
abbrev N_layout_linked : List Str := ["layout", "prototype"]
theorem sc_layout_linked : FnScope N_layout_linked ["layout", "prototype"] (defScope s_layout_linked) := ⟨rfl, rfl, rfl, by decide +kernel, rfl, by decide +kernel, by decide +kernel⟩
theorem ok_layout_linked (T : Txt K mg) (h : Has K mg "layout_linked" s_layout_linked) (o_with_prototype : Ok P w K mg base "with_prototype" 1 2 with_prototype_D) : Ok P w K mg base "layout_linked" 2 2 layout_linked_D := by
  refine ok_def h sc_layout_linked rfl (fun _ _ _ _ _ _ us hl => match us, hl with | [_, _], _ => rfl) fun f cdv A outer s H E hr => ?_
  exact ⟨_, (dss_cons (ds_if (dt_cmp c_is (de_var 0 (pv 0) rfl) (de_con pe_non rfl fun _ => .non) (nomark _)) (dss_one (ds_ret (de_con pe_non rfl fun _ => .non))) dss_nil)
    (dss_one (ds_ret (de_call o_with_prototype hr (by decide) rfl (da_cons (de_var 0 (pv 0) rfl) (da_cons (de_var 1 (pv 1) rfl) (da_nil rfl)))))))⟩
abbrev s_layout_made : Stmt := topS 58
abbrev N_layout_made : List Str := ["sisters", "prototype", "fields", "higher", "layout", "field"]
theorem sc_layout_made : FnScope N_layout_made ["sisters", "prototype", "fields"] (defScope s_layout_made) := ⟨rfl, rfl, rfl, by decide +kernel, rfl, by decide +kernel, by decide +kernel⟩
theorem ok_layout_made (T : Txt K mg) (h : Has K mg "layout_made" s_layout_made) (o_bare_shape : Ok P w K mg base "bare_shape" 1 1 bare_shape_D) (o_layout_added : Ok P w K mg base "layout_added" 5 3 layout_added_D) : Ok P w K mg base "layout_made" 6 3 layout_made_D := by
  refine ok_def h sc_layout_made rfl (fun _ _ _ _ _ _ us hl => match us, hl with | [_, _, _], _ => rfl) fun f cdv A outer s H E hr => ?_
  exact ⟨_, (dss_cons (ds_set (i := 3) sc_layout_made.nd rfl (Or.inl rfl) (de_var 0 (pv 0) rfl))
    (dss_cons (ds_set (i := 4) sc_layout_made.nd rfl (Or.inl rfl) (de_call o_bare_shape hr (by decide) rfl (da_cons (de_var 1 (pv 1) rfl) (da_nil rfl))))
    (dss_cons (ds_for PassesOwn.never rfl (di_tup (de_var 2 (pv 2) rfl)) (dg_name (pg_name (i := 5) sc_layout_made.nd rfl (Or.inl rfl))) (dss_one (ds_asg (de_call o_layout_added hr (by decide) rfl (da_cons (de_var 3 (pv 3) rfl) (da_cons (de_var 4 (pv 4) rfl) (da_cons (de_var 5 (pv 5) rfl) (da_nil rfl))))) (dg_tup (is := [3, 4]) rfl rfl (dgs_cons (pg_name (i := 3) sc_layout_made.nd rfl (Or.inl rfl)) (dgs_cons (pg_name (i := 4) sc_layout_made.nd rfl (Or.inl rfl)) dgs_nil))))))
    (dss_one (ds_ret (de_tup (da_cons (de_var 3 (pv 3) rfl) (da_cons (de_var 4 (pv 4) rfl) (da_nil rfl)))))))))⟩
abbrev s_outcome : Stmt := topS 59
abbrev N_outcome : List Str := ["before", "after"]
theorem sc_outcome : FnScope N_outcome ["before", "after"] (defScope s_outcome) := ⟨rfl, rfl, rfl, by decide +kernel, rfl, by decide +kernel, by decide +kernel⟩
theorem ok_outcome (T : Txt K mg) (h : Has K mg "outcome" s_outcome)  : Ok P w K mg base "outcome" 1 2 outcome_D := by
  refine ok_def h sc_outcome rfl (fun _ _ _ _ _ _ us hl => match us, hl with | [_, _], _ => rfl) fun f cdv A outer s H E hr => ?_
  exact ⟨_, (dss_cons (ds_if (dt_cmp c_is (de_var 0 (pv 0) rfl) (de_con pe_non rfl fun _ => .non) (nomark _)) (dss_one (ds_ret (de_con pe_int rfl fun _ => .int _))) dss_nil)
    (dss_cons (ds_if (dt_cmp c_is (de_var 1 (pv 1) rfl) (de_con pe_non rfl fun _ => .non) (nomark _)) (dss_one (ds_ret (de_con pe_int rfl fun _ => .int _))) dss_nil)
    (dss_cons (ds_if (dt_cmp (c_eq hr rfl) (de_var 1 (pv 1) rfl) (de_var 0 (pv 0) rfl) (nomark _)) (dss_one (ds_ret (de_con pe_int rfl fun _ => .int _))) dss_nil)
    (dss_one (ds_ret (de_con pe_int rfl fun _ => .int _))))))⟩
abbrev s_is_there : Stmt := topS 62
abbrev N_is_there : List Str := ["things", "address"]
theorem sc_is_there : FnScope N_is_there ["things", "address"] (defScope s_is_there) := ⟨rfl, rfl, rfl, by decide +kernel, rfl, by decide +kernel, by decide +kernel⟩
theorem ok_is_there (T : Txt K mg) (h : Has K mg "is_there" s_is_there)  : Ok P w K mg base "is_there" 1 2 is_there_D := by
  refine ok_def h sc_is_there rfl (fun _ _ _ _ _ _ us hl => match us, hl with | [_, _], _ => rfl) fun f cdv A outer s H E hr => ?_
  exact ⟨_, (dss_one (ds_ret (de_chain c_le c_lt (de_con pe_int rfl fun _ => .int _) (de_var 1 (pv 1) rfl) (de_len rfl T.n_len (da_cons (de_var 0 (pv 0) rfl) (da_nil rfl))))))⟩
abbrev s_is_known : Stmt := topS 63
abbrev N_is_known : List Str := ["things", "value"]
theorem sc_is_known : FnScope N_is_known ["things", "value"] (defScope s_is_known) := ⟨rfl, rfl, rfl, by decide +kernel, rfl, by decide +kernel, by decide +kernel⟩
theorem ok_is_known (T : Txt K mg) (h : Has K mg "is_known" s_is_known) (o_is_there : Ok P w K mg base "is_there" 1 2 is_there_D) : Ok P w K mg base "is_known" 2 2 is_known_D := by
  refine ok_def h sc_is_known rfl (fun _ _ _ _ _ _ us hl => match us, hl with | [_, _], _ => rfl) fun f cdv A outer s H E hr => ?_
  exact ⟨_, (dss_one (ds_ret (de_or (de_cmp (c_ne hr rfl) (de_ix (de_var 1 (pv 1) rfl) (de_con pe_int rfl fun _ => .int _) (fun _ _ => rfl)) (de_glob rfl T.c_OBJECT rfl) (nomark _)) (de_one (de_call o_is_there hr (by decide) rfl (da_cons (de_var 0 (pv 0) rfl) (da_cons (de_ix (de_var 1 (pv 1) rfl) (de_con pe_int rfl fun _ => .int _) (fun _ _ => rfl)) (da_nil rfl))))))))⟩
abbrev s_with_thing : Stmt := topS 64
abbrev N_with_thing : List Str := ["things", "address", "thing"]
theorem sc_with_thing : FnScope N_with_thing ["things", "address", "thing"] (defScope s_with_thing) := ⟨rfl, rfl, rfl, by decide +kernel, rfl, by decide +kernel, by decide +kernel⟩
theorem ok_with_thing (T : Txt K mg) (h : Has K mg "with_thing" s_with_thing)  : Ok P w K mg base "with_thing" 1 3 with_thing_D := by
  refine ok_def h sc_with_thing rfl (fun _ _ _ _ _ _ us hl => match us, hl with | [_, _, _], _ => rfl) fun f cdv A outer s H E hr => ?_
  exact ⟨_, (dss_one (ds_ret (de_plus (de_plus (de_slice (de_var 0 (pv 0) rfl) dp_none (dp_some (de_var 1 (pv 1) rfl))) (de_tup (da_cons (de_var 2 (pv 2) rfl) (da_nil rfl)))) (de_slice (de_var 0 (pv 0) rfl) (dp_some (de_plus (de_var 1 (pv 1) rfl) (de_con pe_int rfl fun _ => .int _))) dp_none))))⟩
abbrev s_line_from : Stmt := topS 65
abbrev N_line_from : List Str := ["things", "address", "line", "at", "turn"]
theorem sc_line_from : FnScope N_line_from ["things", "address"] (defScope s_line_from) := ⟨rfl, rfl, rfl, by decide +kernel, rfl, by decide +kernel, by decide +kernel⟩
theorem ok_line_from (T : Txt K mg) (h : Has K mg "line_from" s_line_from)  : Ok P w K mg base "line_from" 1 2 line_from_D := by
  refine ok_def h sc_line_from rfl (fun _ _ _ _ _ _ us hl => match us, hl with | [_, _], _ => rfl) fun f cdv A outer s H E hr => ?_
  exact ⟨_, (dss_cons (ds_ownN (i := 2) sc_line_from.nd rfl (Or.inl rfl) (da_nil rfl))
    (dss_cons (ds_set (i := 3) sc_line_from.nd rfl (Or.inl rfl) (de_var 1 (pv 1) rfl))
    (dss_cons (ds_for PassesOwn.never rfl (di_range1 rfl T.n_range (da_cons (de_len rfl T.n_len (da_cons (de_var 0 (pv 0) rfl) (da_nil rfl))) (da_nil rfl))) (dg_name (pg_name (i := 4) sc_line_from.nd rfl (Or.inl rfl))) (dss_one (ds_if (dt_cmp c_ge (de_var 3 (pv 3) rfl) (de_con pe_int rfl fun _ => .int _) (nomark _)) (dss_cons (ds_app (pv 2) (de_var 3 (pv 3) rfl))
    (dss_one (ds_set (i := 3) sc_line_from.nd rfl (Or.inl rfl) (de_ix (de_ix (de_var 0 (pv 0) rfl) (de_var 3 (pv 3) rfl) (fun _ _ => rfl)) (de_con pe_int rfl fun _ => .int _) (fun _ _ => rfl))))) dss_nil)))
    (dss_one (ds_ret (de_var 2 (pv 2) rfl))))))⟩
abbrev s_with_field : Stmt := topS 66
abbrev N_with_field : List Str := ["sisters", "thing", "field", "prototype", "fields", "layout", "place", "higher", "after"]
theorem sc_with_field : FnScope N_with_field ["sisters", "thing", "field"] (defScope s_with_field) := ⟨rfl, rfl, rfl, by decide +kernel, rfl, by decide +kernel, by decide +kernel⟩
theorem ok_with_field (T : Txt K mg) (h : Has K mg "with_field" s_with_field) (o_field_place : Ok P w K mg base "field_place" 1 2 field_place_D) (o_layout_replaced : Ok P w K mg base "layout_replaced" 5 4 layout_replaced_D) (o_layout_added : Ok P w K mg base "layout_added" 5 3 layout_added_D) : Ok P w K mg base "with_field" 6 3 with_field_D := by
  refine ok_def h sc_with_field rfl (fun _ _ _ _ _ _ us hl => match us, hl with | [_, _, _], _ => rfl) fun f cdv A outer s H E hr => ?_
  exact ⟨_, (dss_cons (ds_asg (de_var 1 (pv 1) rfl) (dg_tup (is := [3, 4, 5]) rfl rfl (dgs_cons (pg_name (i := 3) sc_with_field.nd rfl (Or.inl rfl)) (dgs_cons (pg_name (i := 4) sc_with_field.nd rfl (Or.inl rfl)) (dgs_cons (pg_name (i := 5) sc_with_field.nd rfl (Or.inl rfl)) dgs_nil)))))
    (dss_cons (ds_set (i := 6) sc_with_field.nd rfl (Or.inl rfl) (de_call o_field_place hr (by decide) rfl (da_cons (de_var 4 (pv 4) rfl) (da_cons (de_ix (de_var 2 (pv 2) rfl) (de_con pe_int rfl fun _ => .int _) (fun _ _ => rfl)) (da_nil rfl)))))
    (dss_cons (ds_if (dt_cmp c_lt (de_var 6 (pv 6) rfl) (de_con pe_int rfl fun _ => .int _) (nomark _)) (dss_cons (ds_asg (de_call o_layout_added hr (by decide) rfl (da_cons (de_var 0 (pv 0) rfl) (da_cons (de_var 5 (pv 5) rfl) (da_cons (de_var 2 (pv 2) rfl) (da_nil rfl))))) (dg_tup (is := [7, 8]) rfl rfl (dgs_cons (pg_name (i := 7) sc_with_field.nd rfl (Or.inl rfl)) (dgs_cons (pg_name (i := 8) sc_with_field.nd rfl (Or.inl rfl)) dgs_nil))))
    (dss_one (ds_ret (de_tup (da_cons (de_var 7 (pv 7) rfl) (da_cons (de_tup (da_cons (de_var 3 (pv 3) rfl) (da_cons (de_plus (de_var 4 (pv 4) rfl) (de_tup (da_cons (de_var 2 (pv 2) rfl) (da_nil rfl)))) (da_cons (de_var 8 (pv 8) rfl) (da_nil rfl))))) (da_nil rfl))))))) dss_nil)
    (dss_cons (ds_asg (de_call o_layout_replaced hr (by decide) rfl (da_cons (de_var 0 (pv 0) rfl) (da_cons (de_var 5 (pv 5) rfl) (da_cons (de_var 6 (pv 6) rfl) (da_cons (de_var 2 (pv 2) rfl) (da_nil rfl)))))) (dg_tup (is := [7, 8]) rfl rfl (dgs_cons (pg_name (i := 7) sc_with_field.nd rfl (Or.inl rfl)) (dgs_cons (pg_name (i := 8) sc_with_field.nd rfl (Or.inl rfl)) dgs_nil))))
    (dss_one (ds_ret (de_tup (da_cons (de_var 7 (pv 7) rfl) (da_cons (de_tup (da_cons (de_var 3 (pv 3) rfl) (da_cons (de_plus (de_plus (de_slice (de_var 4 (pv 4) rfl) dp_none (dp_some (de_var 6 (pv 6) rfl))) (de_tup (da_cons (de_var 2 (pv 2) rfl) (da_nil rfl)))) (de_slice (de_var 4 (pv 4) rfl) (dp_some (de_plus (de_var 6 (pv 6) rfl) (de_con pe_int rfl fun _ => .int _))) dp_none)) (da_cons (de_var 8 (pv 8) rfl) (da_nil rfl))))) (da_nil rfl))))))))))⟩
end
end Sb
end
section
set_option Elab.async false
set_option linter.all false
set_option maxRecDepth 100000
set_option maxHeartbeats 4000000
namespace Sb
open PySem PySem.Spec PyProof.Rows L2
section
variable {P : Program} {w : World} {K : PySem.W.Frag} {mg : Str → Option Value} {base : Heap}
abbrev s_without_field : Stmt := topS 67
abbrev N_without_field : List Str := ["thing", "place", "prototype", "fields", "layout"]
theorem sc_without_field : FnScope N_without_field ["thing", "place"] (defScope s_without_field) := ⟨rfl, rfl, rfl, by decide +kernel, rfl, by decide +kernel, by decide +kernel⟩
theorem ok_without_field (T : Txt K mg) (h : Has K mg "without_field" s_without_field) (o_layout_removed : Ok P w K mg base "layout_removed" 2 2 layout_removed_D) : Ok P w K mg base "without_field" 3 2 without_field_D := by
  refine ok_def h sc_without_field rfl (fun _ _ _ _ _ _ us hl => match us, hl with | [_, _], _ => rfl) fun f cdv A outer s H E hr => ?_
  exact ⟨_, (dss_cons (ds_asg (de_var 0 (pv 0) rfl) (dg_tup (is := [2, 3, 4]) rfl rfl (dgs_cons (pg_name (i := 2) sc_without_field.nd rfl (Or.inl rfl)) (dgs_cons (pg_name (i := 3) sc_without_field.nd rfl (Or.inl rfl)) (dgs_cons (pg_name (i := 4) sc_without_field.nd rfl (Or.inl rfl)) dgs_nil)))))
    (dss_one (ds_ret (de_tup (da_cons (de_var 2 (pv 2) rfl) (da_cons (de_plus (de_slice (de_var 3 (pv 3) rfl) dp_none (dp_some (de_var 1 (pv 1) rfl))) (de_slice (de_var 3 (pv 3) rfl) (dp_some (de_plus (de_var 1 (pv 1) rfl) (de_con pe_int rfl fun _ => .int _))) dp_none)) (da_cons (de_call o_layout_removed hr (by decide) rfl (da_cons (de_var 4 (pv 4) rfl) (da_cons (de_var 1 (pv 1) rfl) (da_nil rfl)))) (da_nil rfl))))))))⟩
abbrev s_caught_up : Stmt := topS 68
abbrev N_caught_up : List Str := ["sisters", "thing", "prototype", "fields", "layout", "higher", "after"]
theorem sc_caught_up : FnScope N_caught_up ["sisters", "thing"] (defScope s_caught_up) := ⟨rfl, rfl, rfl, by decide +kernel, rfl, by decide +kernel, by decide +kernel⟩
theorem ok_caught_up (T : Txt K mg) (h : Has K mg "caught_up" s_caught_up) (o_layout_made : Ok P w K mg base "layout_made" 6 3 layout_made_D) : Ok P w K mg base "caught_up" 7 2 caught_up_D := by
  refine ok_def h sc_caught_up rfl (fun _ _ _ _ _ _ us hl => match us, hl with | [_, _], _ => rfl) fun f cdv A outer s H E hr => ?_
  exact ⟨_, (dss_cons (ds_asg (de_var 1 (pv 1) rfl) (dg_tup (is := [2, 3, 4]) rfl rfl (dgs_cons (pg_name (i := 2) sc_caught_up.nd rfl (Or.inl rfl)) (dgs_cons (pg_name (i := 3) sc_caught_up.nd rfl (Or.inl rfl)) (dgs_cons (pg_name (i := 4) sc_caught_up.nd rfl (Or.inl rfl)) dgs_nil)))))
    (dss_cons (ds_if (dt_cmp c_is (de_var 4 (pv 4) rfl) (de_con pe_non rfl fun _ => .non) (nomark _)) (dss_one (ds_ret (de_tup (da_cons (de_var 0 (pv 0) rfl) (da_cons (de_var 1 (pv 1) rfl) (da_nil rfl)))))) dss_nil)
    (dss_cons (ds_asg (de_call o_layout_made hr (by decide) rfl (da_cons (de_var 0 (pv 0) rfl) (da_cons (de_var 2 (pv 2) rfl) (da_cons (de_var 3 (pv 3) rfl) (da_nil rfl))))) (dg_tup (is := [5, 6]) rfl rfl (dgs_cons (pg_name (i := 5) sc_caught_up.nd rfl (Or.inl rfl)) (dgs_cons (pg_name (i := 6) sc_caught_up.nd rfl (Or.inl rfl)) dgs_nil))))
    (dss_one (ds_ret (de_tup (da_cons (de_var 5 (pv 5) rfl) (da_cons (de_tup (da_cons (de_var 2 (pv 2) rfl) (da_cons (de_var 3 (pv 3) rfl) (da_cons (de_var 6 (pv 6) rfl) (da_nil rfl))))) (da_nil rfl)))))))))⟩
abbrev s_put_refusal : Stmt := topS 69
abbrev N_put_refusal : List Str := ["things", "address", "field", "fields"]
theorem sc_put_refusal : FnScope N_put_refusal ["things", "address", "field"] (defScope s_put_refusal) := ⟨rfl, rfl, rfl, by decide +kernel, rfl, by decide +kernel, by decide +kernel⟩
theorem ok_put_refusal (T : Txt K mg) (h : Has K mg "put_refusal" s_put_refusal) (o_is_field : Ok P w K mg base "is_field" 2 1 is_field_D) (o_is_there : Ok P w K mg base "is_there" 1 2 is_there_D) (o_is_known : Ok P w K mg base "is_known" 2 2 is_known_D) (o_field_place : Ok P w K mg base "field_place" 1 2 field_place_D) : Ok P w K mg base "put_refusal" 3 3 put_refusal_D := by
  refine ok_def h sc_put_refusal rfl (fun _ _ _ _ _ _ us hl => match us, hl with | [_, _, _], _ => rfl) fun f cdv A outer s H E hr => ?_
  exact ⟨_, (dss_cons (ds_if (dt_not (dt_val (de_call o_is_field hr (by decide) rfl (da_cons (de_var 2 (pv 2) rfl) (da_nil rfl))))) (dss_one (ds_ret (de_neg (de_con pe_int rfl fun _ => .int _)))) dss_nil)
    (dss_cons (ds_if (dt_w (dw_or (dt_not (dt_val (de_call o_is_there hr (by decide) rfl (da_cons (de_var 0 (pv 0) rfl) (da_cons (de_var 1 (pv 1) rfl) (da_nil rfl)))))) (dw_or1 (dt_not (dt_val (de_call o_is_known hr (by decide) rfl (da_cons (de_var 0 (pv 0) rfl) (da_cons (de_ix (de_var 2 (pv 2) rfl) (de_con pe_int rfl fun _ => .int _) (fun _ _ => rfl)) (da_nil rfl))))))))) (dss_one (ds_ret (de_neg (de_con pe_int rfl fun _ => .int _)))) dss_nil)
    (dss_cons (ds_set (i := 3) sc_put_refusal.nd rfl (Or.inl rfl) (de_ix (de_ix (de_var 0 (pv 0) rfl) (de_var 1 (pv 1) rfl) (fun _ _ => rfl)) (de_con pe_int rfl fun _ => .int _) (fun _ _ => rfl)))
    (dss_cons (ds_if (dt_w (dw_and (dt_cmp c_lt (de_call o_field_place hr (by decide) rfl (da_cons (de_var 3 (pv 3) rfl) (da_cons (de_ix (de_var 2 (pv 2) rfl) (de_con pe_int rfl fun _ => .int _) (fun _ _ => rfl)) (da_nil rfl)))) (de_con pe_int rfl fun _ => .int _) (nomark _)) (dw_and1 (dt_cmp c_ge (de_len rfl T.n_len (da_cons (de_var 3 (pv 3) rfl) (da_nil rfl))) (de_glob rfl T.c_MOST_FIELDS rfl) (nomark _))))) (dss_one (ds_ret (de_neg (de_con pe_int rfl fun _ => .int _)))) dss_nil)
    (dss_one (ds_ret (de_con pe_int rfl fun _ => .int _)))))))⟩
abbrev s_make_refusal : Stmt := topS 71
abbrev N_make_refusal : List Str := ["things", "prototype", "numbers", "fields", "field"]
theorem sc_make_refusal : FnScope N_make_refusal ["things", "prototype", "numbers"] (defScope s_make_refusal) := ⟨rfl, rfl, rfl, by decide +kernel, rfl, by decide +kernel, by decide +kernel⟩
theorem ok_make_refusal (T : Txt K mg) (h : Has K mg "make_refusal" s_make_refusal) (o_listed_fields : Ok P w K mg base "listed_fields" 2 1 listed_fields_D) (o_has_name_twice : Ok P w K mg base "has_name_twice" 2 1 has_name_twice_D) (o_is_list_of_fields : Ok P w K mg base "is_list_of_fields" 3 1 is_list_of_fields_D) (o_is_known : Ok P w K mg base "is_known" 2 2 is_known_D) : Ok P w K mg base "make_refusal" 4 3 make_refusal_D := by
  refine ok_def h sc_make_refusal rfl (fun _ _ _ _ _ _ us hl => match us, hl with | [_, _, _], _ => rfl) fun f cdv A outer s H E hr => ?_
  exact ⟨_, (dss_cons (ds_if (dt_w (dw_or (dt_cmp c_lt (de_var 1 (pv 1) rfl) (de_neg (de_con pe_int rfl fun _ => .int _)) (nomark _)) (dw_or1 (dt_not (dt_val (de_call o_is_list_of_fields hr (by decide) rfl (da_cons (de_var 2 (pv 2) rfl) (da_nil rfl)))))))) (dss_one (ds_ret (de_neg (de_con pe_int rfl fun _ => .int _)))) dss_nil)
    (dss_cons (ds_set (i := 3) sc_make_refusal.nd rfl (Or.inl rfl) (de_call o_listed_fields hr (by decide) rfl (da_cons (de_var 2 (pv 2) rfl) (da_nil rfl))))
    (dss_cons (ds_if (dt_val (de_call o_has_name_twice hr (by decide) rfl (da_cons (de_var 3 (pv 3) rfl) (da_nil rfl)))) (dss_one (ds_ret (de_neg (de_con pe_int rfl fun _ => .int _)))) dss_nil)
    (dss_cons (ds_if (dt_w (dw_or (dt_cmp c_ge (de_var 1 (pv 1) rfl) (de_len rfl T.n_len (da_cons (de_var 0 (pv 0) rfl) (da_nil rfl))) (nomark _)) (dw_or1 (dt_not (dt_val (de_all rfl T.n_all rfl (da_cons (de_lc (own := [("field", 4)]) rfl sc_make_refusal.nd rfl (di_tup (de_var 3 (pv 3) rfl)) (blkOk_by (N := N_make_refusal) (sc := defScope s_make_refusal) (own := [("field", 4)]) (by decide +kernel)) (fun _ _ _ _ _ => (dg_name (pg_name (i := 4) sc_make_refusal.nd rfl (Or.inl rfl)))) (fun _ _ _ _ _ => pts_yes) (fun _ _ _ _ _ => (de_call o_is_known hr (by decide) rfl (da_cons (de_var 0 (pv 0) rfl) (da_cons (de_ix (de_var 4 (pv 4) rfl) (de_con pe_int rfl fun _ => .int _) (fun _ _ => rfl)) (da_nil rfl))))) (by decide)) (da_nil rfl)))))))) (dss_one (ds_ret (de_neg (de_con pe_int rfl fun _ => .int _)))) dss_nil)
    (dss_cons (ds_if (dt_cmp c_gt (de_len rfl T.n_len (da_cons (de_var 3 (pv 3) rfl) (da_nil rfl))) (de_glob rfl T.c_MOST_FIELDS rfl) (nomark _)) (dss_one (ds_ret (de_neg (de_con pe_int rfl fun _ => .int _)))) dss_nil)
    (dss_cons (ds_if (dt_cmp c_ge (de_len rfl T.n_len (da_cons (de_var 0 (pv 0) rfl) (da_nil rfl))) (de_glob rfl T.c_MOST_THINGS rfl) (nomark _)) (dss_one (ds_ret (de_neg (de_con pe_int rfl fun _ => .int _)))) dss_nil)
    (dss_one (ds_ret (de_con pe_int rfl fun _ => .int _)))))))))⟩
abbrev s_make : Stmt := topS 72
abbrev N_make : List Str := ["state", "prototype", "numbers", "things", "sisters", "refusal", "fields", "higher", "layout", "made"]
theorem sc_make : FnScope N_make ["state", "prototype", "numbers"] (defScope s_make) := ⟨rfl, rfl, rfl, by decide +kernel, rfl, by decide +kernel, by decide +kernel⟩
theorem ok_make (T : Txt K mg) (h : Has K mg "make" s_make) (o_make_refusal : Ok P w K mg base "make_refusal" 4 3 make_refusal_D) (o_listed_fields : Ok P w K mg base "listed_fields" 2 1 listed_fields_D) (o_layout_made : Ok P w K mg base "layout_made" 6 3 layout_made_D) : Ok P w K mg base "make" 7 3 make_D := by
  refine ok_def h sc_make rfl (fun _ _ _ _ _ _ us hl => match us, hl with | [_, _, _], _ => rfl) fun f cdv A outer s H E hr => ?_
  exact ⟨_, (dss_cons (ds_asg (de_var 0 (pv 0) rfl) (dg_tup (is := [3, 4]) rfl rfl (dgs_cons (pg_name (i := 3) sc_make.nd rfl (Or.inl rfl)) (dgs_cons (pg_name (i := 4) sc_make.nd rfl (Or.inl rfl)) dgs_nil))))
    (dss_cons (ds_set (i := 5) sc_make.nd rfl (Or.inl rfl) (de_call o_make_refusal hr (by decide) rfl (da_cons (de_var 3 (pv 3) rfl) (da_cons (de_var 1 (pv 1) rfl) (da_cons (de_var 2 (pv 2) rfl) (da_nil rfl))))))
    (dss_cons (ds_if (dt_cmp c_lt (de_var 5 (pv 5) rfl) (de_con pe_int rfl fun _ => .int _) (nomark _)) (dss_one (ds_ret (de_tup (da_cons (de_var 0 (pv 0) rfl) (da_cons (de_lst (da_cons (de_var 5 (pv 5) rfl) (da_nil rfl))) (da_nil rfl)))))) dss_nil)
    (dss_cons (ds_set (i := 6) sc_make.nd rfl (Or.inl rfl) (de_call o_listed_fields hr (by decide) rfl (da_cons (de_var 2 (pv 2) rfl) (da_nil rfl))))
    (dss_cons (ds_asg (de_call o_layout_made hr (by decide) rfl (da_cons (de_var 4 (pv 4) rfl) (da_cons (de_var 1 (pv 1) rfl) (da_cons (de_var 6 (pv 6) rfl) (da_nil rfl))))) (dg_tup (is := [7, 8]) rfl rfl (dgs_cons (pg_name (i := 7) sc_make.nd rfl (Or.inl rfl)) (dgs_cons (pg_name (i := 8) sc_make.nd rfl (Or.inl rfl)) dgs_nil))))
    (dss_cons (ds_set (i := 9) sc_make.nd rfl (Or.inl rfl) (de_tup (da_cons (de_var 1 (pv 1) rfl) (da_cons (de_var 6 (pv 6) rfl) (da_cons (de_var 8 (pv 8) rfl) (da_nil rfl))))))
    (dss_one (ds_ret (de_tup (da_cons (de_tup (da_cons (de_plus (de_var 3 (pv 3) rfl) (de_tup (da_cons (de_var 9 (pv 9) rfl) (da_nil rfl)))) (da_cons (de_var 7 (pv 7) rfl) (da_nil rfl)))) (da_cons (de_lst (da_cons (de_con pe_int rfl fun _ => .int _) (da_cons (de_len rfl T.n_len (da_cons (de_var 3 (pv 3) rfl) (da_nil rfl))) (da_nil rfl)))) (da_nil rfl))))))))))))⟩
abbrev s_put : Stmt := topS 73
abbrev N_put : List Str := ["state", "address", "field", "things", "sisters", "refusal", "before", "higher", "after"]
theorem sc_put : FnScope N_put ["state", "address", "field"] (defScope s_put) := ⟨rfl, rfl, rfl, by decide +kernel, rfl, by decide +kernel, by decide +kernel⟩
theorem ok_put (T : Txt K mg) (h : Has K mg "put" s_put) (o_put_refusal : Ok P w K mg base "put_refusal" 3 3 put_refusal_D) (o_with_field : Ok P w K mg base "with_field" 6 3 with_field_D) (o_with_thing : Ok P w K mg base "with_thing" 1 3 with_thing_D) (o_outcome : Ok P w K mg base "outcome" 1 2 outcome_D) : Ok P w K mg base "put" 7 3 put_D := by
  refine ok_def h sc_put rfl (fun _ _ _ _ _ _ us hl => match us, hl with | [_, _, _], _ => rfl) fun f cdv A outer s H E hr => ?_
  exact ⟨_, (dss_cons (ds_asg (de_var 0 (pv 0) rfl) (dg_tup (is := [3, 4]) rfl rfl (dgs_cons (pg_name (i := 3) sc_put.nd rfl (Or.inl rfl)) (dgs_cons (pg_name (i := 4) sc_put.nd rfl (Or.inl rfl)) dgs_nil))))
    (dss_cons (ds_set (i := 5) sc_put.nd rfl (Or.inl rfl) (de_call o_put_refusal hr (by decide) rfl (da_cons (de_var 3 (pv 3) rfl) (da_cons (de_var 1 (pv 1) rfl) (da_cons (de_var 2 (pv 2) rfl) (da_nil rfl))))))
    (dss_cons (ds_if (dt_cmp c_lt (de_var 5 (pv 5) rfl) (de_con pe_int rfl fun _ => .int _) (nomark _)) (dss_one (ds_ret (de_tup (da_cons (de_var 0 (pv 0) rfl) (da_cons (de_lst (da_cons (de_var 5 (pv 5) rfl) (da_nil rfl))) (da_nil rfl)))))) dss_nil)
    (dss_cons (ds_set (i := 6) sc_put.nd rfl (Or.inl rfl) (de_ix (de_var 3 (pv 3) rfl) (de_var 1 (pv 1) rfl) (fun _ _ => rfl)))
    (dss_cons (ds_asg (de_call o_with_field hr (by decide) rfl (da_cons (de_var 4 (pv 4) rfl) (da_cons (de_var 6 (pv 6) rfl) (da_cons (de_var 2 (pv 2) rfl) (da_nil rfl))))) (dg_tup (is := [7, 8]) rfl rfl (dgs_cons (pg_name (i := 7) sc_put.nd rfl (Or.inl rfl)) (dgs_cons (pg_name (i := 8) sc_put.nd rfl (Or.inl rfl)) dgs_nil))))
    (dss_one (ds_ret (de_tup (da_cons (de_tup (da_cons (de_call o_with_thing hr (by decide) rfl (da_cons (de_var 3 (pv 3) rfl) (da_cons (de_var 1 (pv 1) rfl) (da_cons (de_var 8 (pv 8) rfl) (da_nil rfl))))) (da_cons (de_var 7 (pv 7) rfl) (da_nil rfl)))) (da_cons (de_lst (da_cons (de_con pe_int rfl fun _ => .int _) (da_cons (de_call o_outcome hr (by decide) rfl (da_cons (de_ix (de_var 6 (pv 6) rfl) (de_con pe_int rfl fun _ => .int _) (fun _ _ => rfl)) (da_cons (de_ix (de_var 8 (pv 8) rfl) (de_con pe_int rfl fun _ => .int _) (fun _ _ => rfl)) (da_nil rfl)))) (da_nil rfl)))) (da_nil rfl)))))))))))⟩
abbrev s_take_out : Stmt := topS 74
abbrev N_take_out : List Str := ["state", "address", "name", "things", "sisters", "before", "place", "after"]
theorem sc_take_out : FnScope N_take_out ["state", "address", "name"] (defScope s_take_out) := ⟨rfl, rfl, rfl, by decide +kernel, rfl, by decide +kernel, by decide +kernel⟩
theorem ok_take_out (T : Txt K mg) (h : Has K mg "take_out" s_take_out) (o_field_place : Ok P w K mg base "field_place" 1 2 field_place_D) (o_without_field : Ok P w K mg base "without_field" 3 2 without_field_D) (o_is_name : Ok P w K mg base "is_name" 1 1 is_name_D) (o_is_there : Ok P w K mg base "is_there" 1 2 is_there_D) (o_with_thing : Ok P w K mg base "with_thing" 1 3 with_thing_D) (o_outcome : Ok P w K mg base "outcome" 1 2 outcome_D) : Ok P w K mg base "take_out" 4 3 take_out_D := by
  refine ok_def h sc_take_out rfl (fun _ _ _ _ _ _ us hl => match us, hl with | [_, _, _], _ => rfl) fun f cdv A outer s H E hr => ?_
  exact ⟨_, (dss_cons (ds_asg (de_var 0 (pv 0) rfl) (dg_tup (is := [3, 4]) rfl rfl (dgs_cons (pg_name (i := 3) sc_take_out.nd rfl (Or.inl rfl)) (dgs_cons (pg_name (i := 4) sc_take_out.nd rfl (Or.inl rfl)) dgs_nil))))
    (dss_cons (ds_if (dt_not (dt_val (de_call o_is_name hr (by decide) rfl (da_cons (de_var 2 (pv 2) rfl) (da_nil rfl))))) (dss_one (ds_ret (de_tup (da_cons (de_var 0 (pv 0) rfl) (da_cons (de_lst (da_cons (de_neg (de_con pe_int rfl fun _ => .int _)) (da_nil rfl))) (da_nil rfl)))))) dss_nil)
    (dss_cons (ds_if (dt_not (dt_val (de_call o_is_there hr (by decide) rfl (da_cons (de_var 3 (pv 3) rfl) (da_cons (de_var 1 (pv 1) rfl) (da_nil rfl)))))) (dss_one (ds_ret (de_tup (da_cons (de_var 0 (pv 0) rfl) (da_cons (de_lst (da_cons (de_neg (de_con pe_int rfl fun _ => .int _)) (da_nil rfl))) (da_nil rfl)))))) dss_nil)
    (dss_cons (ds_set (i := 5) sc_take_out.nd rfl (Or.inl rfl) (de_ix (de_var 3 (pv 3) rfl) (de_var 1 (pv 1) rfl) (fun _ _ => rfl)))
    (dss_cons (ds_set (i := 6) sc_take_out.nd rfl (Or.inl rfl) (de_call o_field_place hr (by decide) rfl (da_cons (de_ix (de_var 5 (pv 5) rfl) (de_con pe_int rfl fun _ => .int _) (fun _ _ => rfl)) (da_cons (de_var 2 (pv 2) rfl) (da_nil rfl)))))
    (dss_cons (ds_if (dt_cmp c_lt (de_var 6 (pv 6) rfl) (de_con pe_int rfl fun _ => .int _) (nomark _)) (dss_one (ds_ret (de_tup (da_cons (de_var 0 (pv 0) rfl) (da_cons (de_lst (da_cons (de_neg (de_con pe_int rfl fun _ => .int _)) (da_nil rfl))) (da_nil rfl)))))) dss_nil)
    (dss_cons (ds_set (i := 7) sc_take_out.nd rfl (Or.inl rfl) (de_call o_without_field hr (by decide) rfl (da_cons (de_var 5 (pv 5) rfl) (da_cons (de_var 6 (pv 6) rfl) (da_nil rfl)))))
    (dss_one (ds_ret (de_tup (da_cons (de_tup (da_cons (de_call o_with_thing hr (by decide) rfl (da_cons (de_var 3 (pv 3) rfl) (da_cons (de_var 1 (pv 1) rfl) (da_cons (de_var 7 (pv 7) rfl) (da_nil rfl))))) (da_cons (de_var 4 (pv 4) rfl) (da_nil rfl)))) (da_cons (de_lst (da_cons (de_con pe_int rfl fun _ => .int _) (da_cons (de_call o_outcome hr (by decide) rfl (da_cons (de_ix (de_var 5 (pv 5) rfl) (de_con pe_int rfl fun _ => .int _) (fun _ _ => rfl)) (da_cons (de_ix (de_var 7 (pv 7) rfl) (de_con pe_int rfl fun _ => .int _) (fun _ _ => rfl)) (da_nil rfl)))) (da_nil rfl)))) (da_nil rfl)))))))))))))⟩
abbrev s_link : Stmt := topS 75
abbrev N_link : List Str := ["state", "address", "prototype", "things", "sisters", "fields", "before", "after"]
theorem sc_link : FnScope N_link ["state", "address", "prototype"] (defScope s_link) := ⟨rfl, rfl, rfl, by decide +kernel, rfl, by decide +kernel, by decide +kernel⟩
theorem ok_link (T : Txt K mg) (h : Has K mg "link" s_link) (o_layout_linked : Ok P w K mg base "layout_linked" 2 2 layout_linked_D) (o_line_from : Ok P w K mg base "line_from" 1 2 line_from_D) (o_is_there : Ok P w K mg base "is_there" 1 2 is_there_D) (o_with_thing : Ok P w K mg base "with_thing" 1 3 with_thing_D) (o_outcome : Ok P w K mg base "outcome" 1 2 outcome_D) : Ok P w K mg base "link" 3 3 link_D := by
  refine ok_def h sc_link rfl (fun _ _ _ _ _ _ us hl => match us, hl with | [_, _, _], _ => rfl) fun f cdv A outer s H E hr => ?_
  exact ⟨_, (dss_cons (ds_asg (de_var 0 (pv 0) rfl) (dg_tup (is := [3, 4]) rfl rfl (dgs_cons (pg_name (i := 3) sc_link.nd rfl (Or.inl rfl)) (dgs_cons (pg_name (i := 4) sc_link.nd rfl (Or.inl rfl)) dgs_nil))))
    (dss_cons (ds_if (dt_cmp c_lt (de_var 2 (pv 2) rfl) (de_neg (de_con pe_int rfl fun _ => .int _)) (nomark _)) (dss_one (ds_ret (de_tup (da_cons (de_var 0 (pv 0) rfl) (da_cons (de_lst (da_cons (de_neg (de_con pe_int rfl fun _ => .int _)) (da_nil rfl))) (da_nil rfl)))))) dss_nil)
    (dss_cons (ds_if (dt_w (dw_or (dt_not (dt_val (de_call o_is_there hr (by decide) rfl (da_cons (de_var 3 (pv 3) rfl) (da_cons (de_var 1 (pv 1) rfl) (da_nil rfl)))))) (dw_or1 (dt_cmp c_ge (de_var 2 (pv 2) rfl) (de_len rfl T.n_len (da_cons (de_var 3 (pv 3) rfl) (da_nil rfl))) (nomark _))))) (dss_one (ds_ret (de_tup (da_cons (de_var 0 (pv 0) rfl) (da_cons (de_lst (da_cons (de_neg (de_con pe_int rfl fun _ => .int _)) (da_nil rfl))) (da_nil rfl)))))) dss_nil)
    (dss_cons (ds_if (dt_cmp (c_in hr rfl) (de_var 1 (pv 1) rfl) (de_call o_line_from hr (by decide) rfl (da_cons (de_var 3 (pv 3) rfl) (da_cons (de_var 2 (pv 2) rfl) (da_nil rfl)))) rfl) (dss_one (ds_ret (de_tup (da_cons (de_var 0 (pv 0) rfl) (da_cons (de_lst (da_cons (de_neg (de_con pe_int rfl fun _ => .int _)) (da_nil rfl))) (da_nil rfl)))))) dss_nil)
    (dss_cons (ds_set (i := 5) sc_link.nd rfl (Or.inl rfl) (de_ix (de_ix (de_var 3 (pv 3) rfl) (de_var 1 (pv 1) rfl) (fun _ _ => rfl)) (de_con pe_int rfl fun _ => .int _) (fun _ _ => rfl)))
    (dss_cons (ds_set (i := 6) sc_link.nd rfl (Or.inl rfl) (de_ix (de_ix (de_var 3 (pv 3) rfl) (de_var 1 (pv 1) rfl) (fun _ _ => rfl)) (de_con pe_int rfl fun _ => .int _) (fun _ _ => rfl)))
    (dss_cons (ds_set (i := 7) sc_link.nd rfl (Or.inl rfl) (de_call o_layout_linked hr (by decide) rfl (da_cons (de_var 6 (pv 6) rfl) (da_cons (de_var 2 (pv 2) rfl) (da_nil rfl)))))
    (dss_one (ds_ret (de_tup (da_cons (de_tup (da_cons (de_call o_with_thing hr (by decide) rfl (da_cons (de_var 3 (pv 3) rfl) (da_cons (de_var 1 (pv 1) rfl) (da_cons (de_tup (da_cons (de_var 2 (pv 2) rfl) (da_cons (de_var 5 (pv 5) rfl) (da_cons (de_var 7 (pv 7) rfl) (da_nil rfl))))) (da_nil rfl))))) (da_cons (de_var 4 (pv 4) rfl) (da_nil rfl)))) (da_cons (de_lst (da_cons (de_con pe_int rfl fun _ => .int _) (da_cons (de_call o_outcome hr (by decide) rfl (da_cons (de_var 6 (pv 6) rfl) (da_cons (de_var 7 (pv 7) rfl) (da_nil rfl)))) (da_nil rfl)))) (da_nil rfl)))))))))))))⟩
abbrev s_loosen : Stmt := topS 76
abbrev N_loosen : List Str := ["state", "address", "things", "sisters", "prototype", "fields", "layout"]
theorem sc_loosen : FnScope N_loosen ["state", "address"] (defScope s_loosen) := ⟨rfl, rfl, rfl, by decide +kernel, rfl, by decide +kernel, by decide +kernel⟩
theorem ok_loosen (T : Txt K mg) (h : Has K mg "loosen" s_loosen) (o_is_there : Ok P w K mg base "is_there" 1 2 is_there_D) (o_with_thing : Ok P w K mg base "with_thing" 1 3 with_thing_D) (o_outcome : Ok P w K mg base "outcome" 1 2 outcome_D) : Ok P w K mg base "loosen" 2 2 loosen_D := by
  refine ok_def h sc_loosen rfl (fun _ _ _ _ _ _ us hl => match us, hl with | [_, _], _ => rfl) fun f cdv A outer s H E hr => ?_
  exact ⟨_, (dss_cons (ds_asg (de_var 0 (pv 0) rfl) (dg_tup (is := [2, 3]) rfl rfl (dgs_cons (pg_name (i := 2) sc_loosen.nd rfl (Or.inl rfl)) (dgs_cons (pg_name (i := 3) sc_loosen.nd rfl (Or.inl rfl)) dgs_nil))))
    (dss_cons (ds_if (dt_not (dt_val (de_call o_is_there hr (by decide) rfl (da_cons (de_var 2 (pv 2) rfl) (da_cons (de_var 1 (pv 1) rfl) (da_nil rfl)))))) (dss_one (ds_ret (de_tup (da_cons (de_var 0 (pv 0) rfl) (da_cons (de_lst (da_cons (de_neg (de_con pe_int rfl fun _ => .int _)) (da_nil rfl))) (da_nil rfl)))))) dss_nil)
    (dss_cons (ds_asg (de_ix (de_var 2 (pv 2) rfl) (de_var 1 (pv 1) rfl) (fun _ _ => rfl)) (dg_tup (is := [4, 5, 6]) rfl rfl (dgs_cons (pg_name (i := 4) sc_loosen.nd rfl (Or.inl rfl)) (dgs_cons (pg_name (i := 5) sc_loosen.nd rfl (Or.inl rfl)) (dgs_cons (pg_name (i := 6) sc_loosen.nd rfl (Or.inl rfl)) dgs_nil)))))
    (dss_one (ds_ret (de_tup (da_cons (de_tup (da_cons (de_call o_with_thing hr (by decide) rfl (da_cons (de_var 2 (pv 2) rfl) (da_cons (de_var 1 (pv 1) rfl) (da_cons (de_tup (da_cons (de_var 4 (pv 4) rfl) (da_cons (de_var 5 (pv 5) rfl) (da_cons (de_con pe_non rfl fun _ => .non) (da_nil rfl))))) (da_nil rfl))))) (da_cons (de_var 3 (pv 3) rfl) (da_nil rfl)))) (da_cons (de_lst (da_cons (de_con pe_int rfl fun _ => .int _) (da_cons (de_call o_outcome hr (by decide) rfl (da_cons (de_var 6 (pv 6) rfl) (da_cons (de_con pe_non rfl fun _ => .non) (da_nil rfl)))) (da_nil rfl)))) (da_nil rfl)))))))))⟩
abbrev s_settle : Stmt := topS 77
abbrev N_settle : List Str := ["state", "address", "things", "sisters", "prototype", "fields", "layout", "settled"]
theorem sc_settle : FnScope N_settle ["state", "address"] (defScope s_settle) := ⟨rfl, rfl, rfl, by decide +kernel, rfl, by decide +kernel, by decide +kernel⟩
theorem ok_settle (T : Txt K mg) (h : Has K mg "settle" s_settle) (o_is_there : Ok P w K mg base "is_there" 1 2 is_there_D) (o_constant_shape : Ok P w K mg base "constant_shape" 2 2 constant_shape_D) (o_with_thing : Ok P w K mg base "with_thing" 1 3 with_thing_D) : Ok P w K mg base "settle" 3 2 settle_D := by
  refine ok_def h sc_settle rfl (fun _ _ _ _ _ _ us hl => match us, hl with | [_, _], _ => rfl) fun f cdv A outer s H E hr => ?_
  exact ⟨_, (dss_cons (ds_asg (de_var 0 (pv 0) rfl) (dg_tup (is := [2, 3]) rfl rfl (dgs_cons (pg_name (i := 2) sc_settle.nd rfl (Or.inl rfl)) (dgs_cons (pg_name (i := 3) sc_settle.nd rfl (Or.inl rfl)) dgs_nil))))
    (dss_cons (ds_if (dt_not (dt_val (de_call o_is_there hr (by decide) rfl (da_cons (de_var 2 (pv 2) rfl) (da_cons (de_var 1 (pv 1) rfl) (da_nil rfl)))))) (dss_one (ds_ret (de_tup (da_cons (de_var 0 (pv 0) rfl) (da_cons (de_lst (da_cons (de_neg (de_con pe_int rfl fun _ => .int _)) (da_nil rfl))) (da_nil rfl)))))) dss_nil)
    (dss_cons (ds_asg (de_ix (de_var 2 (pv 2) rfl) (de_var 1 (pv 1) rfl) (fun _ _ => rfl)) (dg_tup (is := [4, 5, 6]) rfl rfl (dgs_cons (pg_name (i := 4) sc_settle.nd rfl (Or.inl rfl)) (dgs_cons (pg_name (i := 5) sc_settle.nd rfl (Or.inl rfl)) (dgs_cons (pg_name (i := 6) sc_settle.nd rfl (Or.inl rfl)) dgs_nil)))))
    (dss_cons (ds_if (dt_cmp c_isNot (de_var 6 (pv 6) rfl) (de_con pe_non rfl fun _ => .non) (nomark _)) (dss_one (ds_ret (de_tup (da_cons (de_var 0 (pv 0) rfl) (da_cons (de_lst (da_cons (de_con pe_int rfl fun _ => .int _) (da_cons (de_con pe_int rfl fun _ => .int _) (da_nil rfl)))) (da_nil rfl)))))) dss_nil)
    (dss_cons (ds_set (i := 7) sc_settle.nd rfl (Or.inl rfl) (de_tup (da_cons (de_var 4 (pv 4) rfl) (da_cons (de_var 5 (pv 5) rfl) (da_cons (de_call o_constant_shape hr (by decide) rfl (da_cons (de_var 4 (pv 4) rfl) (da_cons (de_var 5 (pv 5) rfl) (da_nil rfl)))) (da_nil rfl))))))
    (dss_one (ds_ret (de_tup (da_cons (de_tup (da_cons (de_call o_with_thing hr (by decide) rfl (da_cons (de_var 2 (pv 2) rfl) (da_cons (de_var 1 (pv 1) rfl) (da_cons (de_var 7 (pv 7) rfl) (da_nil rfl))))) (da_cons (de_var 3 (pv 3) rfl) (da_nil rfl)))) (da_cons (de_lst (da_cons (de_con pe_int rfl fun _ => .int _) (da_cons (de_con pe_int rfl fun _ => .int _) (da_nil rfl)))) (da_nil rfl)))))))))))⟩
abbrev s_catch_up : Stmt := topS 78
abbrev N_catch_up : List Str := ["state", "things", "sisters", "later", "higher", "count", "thing", "after"]
theorem sc_catch_up : FnScope N_catch_up ["state"] (defScope s_catch_up) := ⟨rfl, rfl, rfl, by decide +kernel, rfl, by decide +kernel, by decide +kernel⟩
theorem ok_catch_up (T : Txt K mg) (h : Has K mg "catch_up" s_catch_up) (o_caught_up : Ok P w K mg base "caught_up" 7 2 caught_up_D) : Ok P w K mg base "catch_up" 8 1 catch_up_D := by
  refine ok_def h sc_catch_up rfl (fun _ _ _ _ _ _ us hl => match us, hl with | [_], _ => rfl) fun f cdv A outer s H E hr => ?_
  exact ⟨_, (dss_cons (ds_asg (de_var 0 (pv 0) rfl) (dg_tup (is := [1, 2]) rfl rfl (dgs_cons (pg_name (i := 1) sc_catch_up.nd rfl (Or.inl rfl)) (dgs_cons (pg_name (i := 2) sc_catch_up.nd rfl (Or.inl rfl)) dgs_nil))))
    (dss_cons (ds_set (i := 3) sc_catch_up.nd rfl (Or.inl rfl) (de_tup (da_nil rfl)))
    (dss_cons (ds_set (i := 4) sc_catch_up.nd rfl (Or.inl rfl) (de_var 2 (pv 2) rfl))
    (dss_cons (ds_set (i := 5) sc_catch_up.nd rfl (Or.inl rfl) (de_con pe_int rfl fun _ => .int _))
    (dss_cons (ds_for PassesOwn.never rfl (di_tup (de_var 1 (pv 1) rfl)) (dg_name (pg_name (i := 6) sc_catch_up.nd rfl (Or.inl rfl))) (dss_cons (ds_asg (de_call o_caught_up hr (by decide) rfl (da_cons (de_var 4 (pv 4) rfl) (da_cons (de_var 6 (pv 6) rfl) (da_nil rfl)))) (dg_tup (is := [4, 7]) rfl rfl (dgs_cons (pg_name (i := 4) sc_catch_up.nd rfl (Or.inl rfl)) (dgs_cons (pg_name (i := 7) sc_catch_up.nd rfl (Or.inl rfl)) dgs_nil))))
    (dss_cons (ds_set (i := 3) sc_catch_up.nd rfl (Or.inl rfl) (de_plus (de_var 3 (pv 3) rfl) (de_tup (da_cons (de_var 7 (pv 7) rfl) (da_nil rfl)))))
    (dss_one (ds_if (dt_cmp (c_ne hr rfl) (de_ix (de_var 7 (pv 7) rfl) (de_con pe_int rfl fun _ => .int _) (fun _ _ => rfl)) (de_ix (de_var 6 (pv 6) rfl) (de_con pe_int rfl fun _ => .int _) (fun _ _ => rfl)) (nomark _)) (dss_one (ds_set (i := 5) sc_catch_up.nd rfl (Or.inl rfl) (de_plus (de_var 5 (pv 5) rfl) (de_con pe_int rfl fun _ => .int _)))) dss_nil)))))
    (dss_one (ds_ret (de_tup (da_cons (de_tup (da_cons (de_var 3 (pv 3) rfl) (da_cons (de_var 4 (pv 4) rfl) (da_nil rfl)))) (da_cons (de_lst (da_cons (de_con pe_int rfl fun _ => .int _) (da_cons (de_var 5 (pv 5) rfl) (da_nil rfl)))) (da_nil rfl)))))))))))⟩
abbrev s_tell_object : Stmt := topS 80
abbrev N_tell_object : List Str := ["things", "address", "prototype", "fields", "layout", "told", "field"]
theorem sc_tell_object : FnScope N_tell_object ["things", "address"] (defScope s_tell_object) := ⟨rfl, rfl, rfl, by decide +kernel, rfl, by decide +kernel, by decide +kernel⟩
theorem ok_tell_object (T : Txt K mg) (h : Has K mg "tell_object" s_tell_object) (o_is_there : Ok P w K mg base "is_there" 1 2 is_there_D) (o_told_field : Ok P w K mg base "told_field" 1 1 told_field_D) : Ok P w K mg base "tell_object" 2 2 tell_object_D := by
  refine ok_def h sc_tell_object rfl (fun _ _ _ _ _ _ us hl => match us, hl with | [_, _], _ => rfl) fun f cdv A outer s H E hr => ?_
  exact ⟨_, (dss_cons (ds_if (dt_not (dt_val (de_call o_is_there hr (by decide) rfl (da_cons (de_var 0 (pv 0) rfl) (da_cons (de_var 1 (pv 1) rfl) (da_nil rfl)))))) (dss_one (ds_ret (de_lst (da_cons (de_neg (de_con pe_int rfl fun _ => .int _)) (da_nil rfl))))) dss_nil)
    (dss_cons (ds_asg (de_ix (de_var 0 (pv 0) rfl) (de_var 1 (pv 1) rfl) (fun _ _ => rfl)) (dg_tup (is := [2, 3, 4]) rfl rfl (dgs_cons (pg_name (i := 2) sc_tell_object.nd rfl (Or.inl rfl)) (dgs_cons (pg_name (i := 3) sc_tell_object.nd rfl (Or.inl rfl)) (dgs_cons (pg_name (i := 4) sc_tell_object.nd rfl (Or.inl rfl)) dgs_nil)))))
    (dss_cons (ds_ownN (i := 5) sc_tell_object.nd rfl (Or.inl rfl) (da_cons (de_con pe_int rfl fun _ => .int _) (da_cons (de_var 2 (pv 2) rfl) (da_cons (de_len rfl T.n_len (da_cons (de_var 3 (pv 3) rfl) (da_nil rfl))) (da_nil rfl)))))
    (dss_cons (ds_for PassesOwn.never rfl (di_tup (de_var 3 (pv 3) rfl)) (dg_name (pg_name (i := 6) sc_tell_object.nd rfl (Or.inl rfl))) (dss_one (ds_extL (pv 5) (de_call o_told_field hr (by decide) rfl (da_cons (de_var 6 (pv 6) rfl) (da_nil rfl))))))
    (dss_one (ds_ret (de_var 5 (pv 5) rfl)))))))⟩
abbrev s_tell_shape : Stmt := topS 81
abbrev N_tell_shape : List Str := ["things", "address"]
theorem sc_tell_shape : FnScope N_tell_shape ["things", "address"] (defScope s_tell_shape) := ⟨rfl, rfl, rfl, by decide +kernel, rfl, by decide +kernel, by decide +kernel⟩
theorem ok_tell_shape (T : Txt K mg) (h : Has K mg "tell_shape" s_tell_shape) (o_is_there : Ok P w K mg base "is_there" 1 2 is_there_D) (o_told_layout : Ok P w K mg base "told_layout" 2 1 told_layout_D) : Ok P w K mg base "tell_shape" 3 2 tell_shape_D := by
  refine ok_def h sc_tell_shape rfl (fun _ _ _ _ _ _ us hl => match us, hl with | [_, _], _ => rfl) fun f cdv A outer s H E hr => ?_
  exact ⟨_, (dss_cons (ds_if (dt_not (dt_val (de_call o_is_there hr (by decide) rfl (da_cons (de_var 0 (pv 0) rfl) (da_cons (de_var 1 (pv 1) rfl) (da_nil rfl)))))) (dss_one (ds_ret (de_lst (da_cons (de_neg (de_con pe_int rfl fun _ => .int _)) (da_nil rfl))))) dss_nil)
    (dss_one (ds_ret (de_plus (de_lst (da_cons (de_con pe_int rfl fun _ => .int _) (da_nil rfl))) (de_call o_told_layout hr (by decide) rfl (da_cons (de_ix (de_ix (de_var 0 (pv 0) rfl) (de_var 1 (pv 1) rfl) (fun _ _ => rfl)) (de_con pe_int rfl fun _ => .int _) (fun _ _ => rfl)) (da_nil rfl)))))))⟩
abbrev s_tell_same_shape : Stmt := topS 82
abbrev N_tell_same_shape : List Str := ["things", "one", "other", "layout"]
theorem sc_tell_same_shape : FnScope N_tell_same_shape ["things", "one", "other"] (defScope s_tell_same_shape) := ⟨rfl, rfl, rfl, by decide +kernel, rfl, by decide +kernel, by decide +kernel⟩
theorem ok_tell_same_shape (T : Txt K mg) (h : Has K mg "tell_same_shape" s_tell_same_shape) (o_is_there : Ok P w K mg base "is_there" 1 2 is_there_D) : Ok P w K mg base "tell_same_shape" 2 3 tell_same_shape_D := by
  refine ok_def h sc_tell_same_shape rfl (fun _ _ _ _ _ _ us hl => match us, hl with | [_, _, _], _ => rfl) fun f cdv A outer s H E hr => ?_
  exact ⟨_, (dss_cons (ds_if (dt_w (dw_or (dt_not (dt_val (de_call o_is_there hr (by decide) rfl (da_cons (de_var 0 (pv 0) rfl) (da_cons (de_var 1 (pv 1) rfl) (da_nil rfl)))))) (dw_or1 (dt_not (dt_val (de_call o_is_there hr (by decide) rfl (da_cons (de_var 0 (pv 0) rfl) (da_cons (de_var 2 (pv 2) rfl) (da_nil rfl))))))))) (dss_one (ds_ret (de_lst (da_cons (de_neg (de_con pe_int rfl fun _ => .int _)) (da_nil rfl))))) dss_nil)
    (dss_cons (ds_set (i := 3) sc_tell_same_shape.nd rfl (Or.inl rfl) (de_ix (de_ix (de_var 0 (pv 0) rfl) (de_var 1 (pv 1) rfl) (fun _ _ => rfl)) (de_con pe_int rfl fun _ => .int _) (fun _ _ => rfl)))
    (dss_cons (ds_if (dt_w (dw_or (dt_cmp c_is (de_var 3 (pv 3) rfl) (de_con pe_non rfl fun _ => .non) (nomark _)) (dw_or1 (dt_cmp (c_ne hr rfl) (de_var 3 (pv 3) rfl) (de_ix (de_ix (de_var 0 (pv 0) rfl) (de_var 2 (pv 2) rfl) (fun _ _ => rfl)) (de_con pe_int rfl fun _ => .int _) (fun _ _ => rfl)) (nomark _))))) (dss_one (ds_ret (de_lst (da_cons (de_con pe_int rfl fun _ => .int _) (da_cons (de_con pe_int rfl fun _ => .int _) (da_nil rfl)))))) dss_nil)
    (dss_one (ds_ret (de_lst (da_cons (de_con pe_int rfl fun _ => .int _) (da_cons (de_con pe_int rfl fun _ => .int _) (da_nil rfl)))))))))⟩
abbrev s_tell_find : Stmt := topS 83
abbrev N_tell_find : List Str := ["things", "address", "name", "looked", "holder", "fields", "place", "is_reader", "kind", "content"]
theorem sc_tell_find : FnScope N_tell_find ["things", "address", "name"] (defScope s_tell_find) := ⟨rfl, rfl, rfl, by decide +kernel, rfl, by decide +kernel, by decide +kernel⟩
theorem ok_tell_find (T : Txt K mg) (h : Has K mg "tell_find" s_tell_find) (o_line_from : Ok P w K mg base "line_from" 1 2 line_from_D) (o_is_name : Ok P w K mg base "is_name" 1 1 is_name_D) (o_is_there : Ok P w K mg base "is_there" 1 2 is_there_D) (o_field_place : Ok P w K mg base "field_place" 1 2 field_place_D) : Ok P w K mg base "tell_find" 2 3 tell_find_D := by
  refine ok_def h sc_tell_find rfl (fun _ _ _ _ _ _ us hl => match us, hl with | [_, _, _], _ => rfl) fun f cdv A outer s H E hr => ?_
  exact ⟨_, (dss_cons (ds_if (dt_not (dt_val (de_call o_is_name hr (by decide) rfl (da_cons (de_var 2 (pv 2) rfl) (da_nil rfl))))) (dss_one (ds_ret (de_lst (da_cons (de_neg (de_con pe_int rfl fun _ => .int _)) (da_nil rfl))))) dss_nil)
    (dss_cons (ds_if (dt_not (dt_val (de_call o_is_there hr (by decide) rfl (da_cons (de_var 0 (pv 0) rfl) (da_cons (de_var 1 (pv 1) rfl) (da_nil rfl)))))) (dss_one (ds_ret (de_lst (da_cons (de_neg (de_con pe_int rfl fun _ => .int _)) (da_nil rfl))))) dss_nil)
    (dss_cons (ds_set (i := 3) sc_tell_find.nd rfl (Or.inl rfl) (de_con pe_int rfl fun _ => .int _))
    (dss_cons (ds_for PassesOwn.never rfl (di_list (de_call o_line_from hr (by decide) rfl (da_cons (de_var 0 (pv 0) rfl) (da_cons (de_var 1 (pv 1) rfl) (da_nil rfl))))) (dg_name (pg_name (i := 4) sc_tell_find.nd rfl (Or.inl rfl))) (dss_cons (ds_set (i := 3) sc_tell_find.nd rfl (Or.inl rfl) (de_plus (de_var 3 (pv 3) rfl) (de_con pe_int rfl fun _ => .int _)))
    (dss_cons (ds_set (i := 5) sc_tell_find.nd rfl (Or.inl rfl) (de_ix (de_ix (de_var 0 (pv 0) rfl) (de_var 4 (pv 4) rfl) (fun _ _ => rfl)) (de_con pe_int rfl fun _ => .int _) (fun _ _ => rfl)))
    (dss_cons (ds_set (i := 6) sc_tell_find.nd rfl (Or.inl rfl) (de_call o_field_place hr (by decide) rfl (da_cons (de_var 5 (pv 5) rfl) (da_cons (de_var 2 (pv 2) rfl) (da_nil rfl)))))
    (dss_one (ds_if (dt_cmp c_ge (de_var 6 (pv 6) rfl) (de_con pe_int rfl fun _ => .int _) (nomark _)) (dss_cons (ds_set (i := 7) sc_tell_find.nd rfl (Or.inl rfl) (de_ix (de_ix (de_var 5 (pv 5) rfl) (de_var 6 (pv 6) rfl) (fun _ _ => rfl)) (de_con pe_int rfl fun _ => .int _) (fun _ _ => rfl)))
    (dss_cons (ds_asg (de_ix (de_ix (de_var 5 (pv 5) rfl) (de_var 6 (pv 6) rfl) (fun _ _ => rfl)) (de_con pe_int rfl fun _ => .int _) (fun _ _ => rfl)) (dg_tup (is := [8, 9]) rfl rfl (dgs_cons (pg_name (i := 8) sc_tell_find.nd rfl (Or.inl rfl)) (dgs_cons (pg_name (i := 9) sc_tell_find.nd rfl (Or.inl rfl)) dgs_nil))))
    (dss_one (ds_ret (de_lst (da_cons (de_con pe_int rfl fun _ => .int _) (da_cons (de_con pe_int rfl fun _ => .int _) (da_cons (de_var 3 (pv 3) rfl) (da_cons (de_var 4 (pv 4) rfl) (da_cons (de_var 6 (pv 6) rfl) (da_cons (de_var 7 (pv 7) rfl) (da_cons (de_var 8 (pv 8) rfl) (da_cons (de_var 9 (pv 9) rfl) (da_nil rfl)))))))))))))) dss_nil))))))
    (dss_one (ds_ret (de_lst (da_cons (de_con pe_int rfl fun _ => .int _) (da_cons (de_con pe_int rfl fun _ => .int _) (da_cons (de_var 3 (pv 3) rfl) (da_nil rfl)))))))))))⟩
end
end Sb
end
section
set_option Elab.async false
set_option linter.all false
set_option maxRecDepth 100000
set_option maxHeartbeats 4000000
namespace Sb
open PySem PySem.Spec PyProof.Rows L2
section
variable {P : Program} {w : World} {K : PySem.W.Frag} {mg : Str → Option Value} {base : Heap}
abbrev s_tell_sisters : Stmt := topS 84
abbrev N_tell_sisters : List Str := ["sisters", "told", "shape", "name", "is_reader", "kind"]
theorem sc_tell_sisters : FnScope N_tell_sisters ["sisters"] (defScope s_tell_sisters) := ⟨rfl, rfl, rfl, by decide +kernel, rfl, by decide +kernel, by decide +kernel⟩
theorem ok_tell_sisters (T : Txt K mg) (h : Has K mg "tell_sisters" s_tell_sisters) (o_told_shape : Ok P w K mg base "told_shape" 1 1 told_shape_D) : Ok P w K mg base "tell_sisters" 2 1 tell_sisters_D := by
  refine ok_def h sc_tell_sisters rfl (fun _ _ _ _ _ _ us hl => match us, hl with | [_], _ => rfl) fun f cdv A outer s H E hr => ?_
  exact ⟨_, (dss_cons (ds_ownN (i := 1) sc_tell_sisters.nd rfl (Or.inl rfl) (da_cons (de_con pe_int rfl fun _ => .int _) (da_cons (de_len rfl T.n_len (da_cons (de_var 0 (pv 0) rfl) (da_nil rfl))) (da_nil rfl))))
    (dss_cons (ds_for PassesOwn.never rfl (di_tup (de_var 0 (pv 0) rfl)) (dg_tup (is := [2, 3, 4, 5]) rfl rfl (dgs_cons (pg_name (i := 2) sc_tell_sisters.nd rfl (Or.inl rfl)) (dgs_cons (pg_name (i := 3) sc_tell_sisters.nd rfl (Or.inl rfl)) (dgs_cons (pg_name (i := 4) sc_tell_sisters.nd rfl (Or.inl rfl)) (dgs_cons (pg_name (i := 5) sc_tell_sisters.nd rfl (Or.inl rfl)) dgs_nil))))) (dss_cons (ds_extL (pv 1) (de_call o_told_shape hr (by decide) rfl (da_cons (de_var 2 (pv 2) rfl) (da_nil rfl))))
    (dss_cons (ds_app (pv 1) (de_var 3 (pv 3) rfl))
    (dss_cons (ds_app (pv 1) (de_var 4 (pv 4) rfl))
    (dss_one (ds_extT (pv 1) (de_var 5 (pv 5) rfl)))))))
    (dss_one (ds_ret (de_var 1 (pv 1) rfl)))))⟩
abbrev s_tell_would : Stmt := topS 85
abbrev N_tell_would : List Str := ["things", "sisters", "address", "field", "refusal", "before", "higher", "after"]
theorem sc_tell_would : FnScope N_tell_would ["things", "sisters", "address", "field"] (defScope s_tell_would) := ⟨rfl, rfl, rfl, by decide +kernel, rfl, by decide +kernel, by decide +kernel⟩
theorem ok_tell_would (T : Txt K mg) (h : Has K mg "tell_would" s_tell_would) (o_put_refusal : Ok P w K mg base "put_refusal" 3 3 put_refusal_D) (o_with_field : Ok P w K mg base "with_field" 6 3 with_field_D) (o_told_layout : Ok P w K mg base "told_layout" 2 1 told_layout_D) (o_outcome : Ok P w K mg base "outcome" 1 2 outcome_D) : Ok P w K mg base "tell_would" 7 4 tell_would_D := by
  refine ok_def h sc_tell_would rfl (fun _ _ _ _ _ _ us hl => match us, hl with | [_, _, _, _], _ => rfl) fun f cdv A outer s H E hr => ?_
  exact ⟨_, (dss_cons (ds_set (i := 4) sc_tell_would.nd rfl (Or.inl rfl) (de_call o_put_refusal hr (by decide) rfl (da_cons (de_var 0 (pv 0) rfl) (da_cons (de_var 2 (pv 2) rfl) (da_cons (de_var 3 (pv 3) rfl) (da_nil rfl))))))
    (dss_cons (ds_if (dt_cmp c_lt (de_var 4 (pv 4) rfl) (de_con pe_int rfl fun _ => .int _) (nomark _)) (dss_one (ds_ret (de_lst (da_cons (de_var 4 (pv 4) rfl) (da_nil rfl))))) dss_nil)
    (dss_cons (ds_set (i := 5) sc_tell_would.nd rfl (Or.inl rfl) (de_ix (de_var 0 (pv 0) rfl) (de_var 2 (pv 2) rfl) (fun _ _ => rfl)))
    (dss_cons (ds_asg (de_call o_with_field hr (by decide) rfl (da_cons (de_var 1 (pv 1) rfl) (da_cons (de_var 5 (pv 5) rfl) (da_cons (de_var 3 (pv 3) rfl) (da_nil rfl))))) (dg_tup (is := [6, 7]) rfl rfl (dgs_cons (pg_name (i := 6) sc_tell_would.nd rfl (Or.inl rfl)) (dgs_cons (pg_name (i := 7) sc_tell_would.nd rfl (Or.inl rfl)) dgs_nil))))
    (dss_one (ds_ret (de_plus (de_lst (da_cons (de_con pe_int rfl fun _ => .int _) (da_cons (de_call o_outcome hr (by decide) rfl (da_cons (de_ix (de_var 5 (pv 5) rfl) (de_con pe_int rfl fun _ => .int _) (fun _ _ => rfl)) (da_cons (de_ix (de_var 7 (pv 7) rfl) (de_con pe_int rfl fun _ => .int _) (fun _ _ => rfl)) (da_nil rfl)))) (da_nil rfl)))) (de_call o_told_layout hr (by decide) rfl (da_cons (de_ix (de_var 7 (pv 7) rfl) (de_con pe_int rfl fun _ => .int _) (fun _ _ => rfl)) (da_nil rfl))))))))))⟩
abbrev s_tell_totals : Stmt := topS 86
abbrev N_tell_totals : List Str := ["things", "sisters", "laid", "loose", "thing", "layout"]
theorem sc_tell_totals : FnScope N_tell_totals ["things", "sisters"] (defScope s_tell_totals) := ⟨rfl, rfl, rfl, by decide +kernel, rfl, by decide +kernel, by decide +kernel⟩
theorem ok_tell_totals (T : Txt K mg) (h : Has K mg "tell_totals" s_tell_totals) (o_how_many_shapes : Ok P w K mg base "how_many_shapes" 1 1 how_many_shapes_D) : Ok P w K mg base "tell_totals" 2 2 tell_totals_D := by
  refine ok_def h sc_tell_totals rfl (fun _ _ _ _ _ _ us hl => match us, hl with | [_, _], _ => rfl) fun f cdv A outer s H E hr => ?_
  exact ⟨_, (dss_cons (ds_setLc (i := 2) (own := [("thing", 4)]) rfl sc_tell_totals.nd rfl rfl rfl (sw_true rfl rfl rfl (by decide +kernel)) (di_tup (de_var 0 (pv 0) rfl)) (blkOk_by (N := N_tell_totals) (sc := defScope s_tell_totals) (own := [("thing", 4)]) (by decide +kernel)) (fun _ _ _ _ _ => (dg_name (pg_name (i := 4) sc_tell_totals.nd rfl (Or.inl rfl)))) (fun _ _ _ _ _ => pts_yes) (fun _ _ _ _ _ => (de_ix (de_var 4 (pv 4) rfl) (de_con pe_int rfl fun _ => .int _) (fun _ _ => rfl))) (by decide))
    (dss_cons (ds_setLc (i := 3) (own := [("layout", 5)]) rfl sc_tell_totals.nd rfl rfl rfl (sw_true rfl rfl rfl (by decide +kernel)) (di_list (de_var 2 (pv 2) rfl)) (blkOk_by (N := N_tell_totals) (sc := defScope s_tell_totals) (own := [("layout", 5)]) (by decide +kernel)) (fun _ _ _ _ _ => (dg_name (pg_name (i := 5) sc_tell_totals.nd rfl (Or.inl rfl)))) (fun _ _ _ _ _ => pts_d (dt_cmp c_is (de_var 5 (pv 5) rfl) (de_con pe_non rfl fun _ => .non) (nomark _))) (fun _ _ _ _ _ => (de_var 5 (pv 5) rfl)) (by decide))
    (dss_one (ds_ret (de_lst (da_cons (de_con pe_int rfl fun _ => .int _) (da_cons (de_len rfl T.n_len (da_cons (de_var 0 (pv 0) rfl) (da_nil rfl))) (da_cons (de_len rfl T.n_len (da_cons (de_var 3 (pv 3) rfl) (da_nil rfl))) (da_cons (de_call o_how_many_shapes hr (by decide) rfl (da_cons (de_var 2 (pv 2) rfl) (da_nil rfl))) (da_cons (de_len rfl T.n_len (da_cons (de_var 1 (pv 1) rfl) (da_nil rfl))) (da_nil rfl)))))))))))⟩
abbrev s_call_size : Stmt := topS 91
abbrev N_call_size : List Str := ["calls", "at", "size"]
theorem sc_call_size : FnScope N_call_size ["calls", "at"] (defScope s_call_size) := ⟨rfl, rfl, rfl, by decide +kernel, rfl, by decide +kernel, by decide +kernel⟩
theorem ok_call_size (T : Txt K mg) (h : Has K mg "call_size" s_call_size)  : Ok P w K mg base "call_size" 1 2 call_size_D := by
  refine ok_def h sc_call_size rfl (fun _ _ _ _ _ _ us hl => match us, hl with | [_, _], _ => rfl) fun f cdv A outer s H E hr => ?_
  obtain ⟨aA, hA1, hA2⟩ := T.a_NUMBERS_AHEAD
  exact ⟨_, (dss_cons (ds_set (i := 2) sc_call_size.nd rfl (Or.inl rfl) (de_ix (de_globT rfl hA1 hA2 rfl) (de_ix (de_var 0 (pv 0) rfl) (de_var 1 (pv 1) rfl) (fun _ _ => rfl)) (fun _ _ => rfl)))
    (dss_cons (ds_if (dt_w (dw_or (dt_cmp (c_eq hr rfl) (de_ix (de_var 0 (pv 0) rfl) (de_var 1 (pv 1) rfl) (fun _ _ => rfl)) (de_glob rfl T.c_MAKE rfl) (nomark _)) (dw_or1 (dt_cmp (c_eq hr rfl) (de_ix (de_var 0 (pv 0) rfl) (de_var 1 (pv 1) rfl) (fun _ _ => rfl)) (de_glob rfl T.c_JUDGE rfl) (nomark _))))) (dss_one (ds_ret (de_plus (de_var 2 (pv 2) rfl) (de_ix (de_var 0 (pv 0) rfl) (de_minus (de_plus (de_var 1 (pv 1) rfl) (de_var 2 (pv 2) rfl)) (de_con pe_int rfl fun _ => .int _)) (fun _ _ => rfl))))) dss_nil)
    (dss_one (ds_ret (de_var 2 (pv 2) rfl)))))⟩
abbrev s_ordered : Stmt := topS 92
abbrev N_ordered : List Str := ["state", "call", "operation"]
theorem sc_ordered : FnScope N_ordered ["state", "call"] (defScope s_ordered) := ⟨rfl, rfl, rfl, by decide +kernel, rfl, by decide +kernel, by decide +kernel⟩
theorem ok_ordered (T : Txt K mg) (h : Has K mg "ordered" s_ordered) (o_catch_up : Ok P w K mg base "catch_up" 8 1 catch_up_D) (o_make : Ok P w K mg base "make" 7 3 make_D) (o_put : Ok P w K mg base "put" 7 3 put_D) (o_take_out : Ok P w K mg base "take_out" 4 3 take_out_D) (o_link : Ok P w K mg base "link" 3 3 link_D) (o_loosen : Ok P w K mg base "loosen" 2 2 loosen_D) (o_settle : Ok P w K mg base "settle" 3 2 settle_D) (o_field_at : Ok P w K mg base "field_at" 1 2 field_at_D) : Ok P w K mg base "ordered" 9 2 ordered_D := by
  refine ok_def h sc_ordered rfl (fun _ _ _ _ _ _ us hl => match us, hl with | [_, _], _ => rfl) fun f cdv A outer s H E hr => ?_
  exact ⟨_, (dss_cons (ds_set (i := 2) sc_ordered.nd rfl (Or.inl rfl) (de_ix (de_var 1 (pv 1) rfl) (de_con pe_int rfl fun _ => .int _) (fun _ _ => rfl)))
    (dss_cons (ds_if (dt_cmp (c_eq hr rfl) (de_var 2 (pv 2) rfl) (de_con pe_int rfl fun _ => .int _) (nomark _)) (dss_one (ds_ret (de_call o_make hr (by decide) rfl (da_cons (de_var 0 (pv 0) rfl) (da_cons (de_ix (de_var 1 (pv 1) rfl) (de_con pe_int rfl fun _ => .int _) (fun _ _ => rfl)) (da_cons (de_slice (de_var 1 (pv 1) rfl) (dp_some (de_con pe_int rfl fun _ => .int _)) dp_none) (da_nil rfl))))))) dss_nil)
    (dss_cons (ds_if (dt_cmp (c_eq hr rfl) (de_var 2 (pv 2) rfl) (de_con pe_int rfl fun _ => .int _) (nomark _)) (dss_one (ds_ret (de_call o_put hr (by decide) rfl (da_cons (de_var 0 (pv 0) rfl) (da_cons (de_ix (de_var 1 (pv 1) rfl) (de_con pe_int rfl fun _ => .int _) (fun _ _ => rfl)) (da_cons (de_call o_field_at hr (by decide) rfl (da_cons (de_var 1 (pv 1) rfl) (da_cons (de_con pe_int rfl fun _ => .int _) (da_nil rfl)))) (da_nil rfl))))))) dss_nil)
    (dss_cons (ds_if (dt_cmp (c_eq hr rfl) (de_var 2 (pv 2) rfl) (de_con pe_int rfl fun _ => .int _) (nomark _)) (dss_one (ds_ret (de_call o_take_out hr (by decide) rfl (da_cons (de_var 0 (pv 0) rfl) (da_cons (de_ix (de_var 1 (pv 1) rfl) (de_con pe_int rfl fun _ => .int _) (fun _ _ => rfl)) (da_cons (de_ix (de_var 1 (pv 1) rfl) (de_con pe_int rfl fun _ => .int _) (fun _ _ => rfl)) (da_nil rfl))))))) dss_nil)
    (dss_cons (ds_if (dt_cmp (c_eq hr rfl) (de_var 2 (pv 2) rfl) (de_con pe_int rfl fun _ => .int _) (nomark _)) (dss_one (ds_ret (de_call o_link hr (by decide) rfl (da_cons (de_var 0 (pv 0) rfl) (da_cons (de_ix (de_var 1 (pv 1) rfl) (de_con pe_int rfl fun _ => .int _) (fun _ _ => rfl)) (da_cons (de_ix (de_var 1 (pv 1) rfl) (de_con pe_int rfl fun _ => .int _) (fun _ _ => rfl)) (da_nil rfl))))))) dss_nil)
    (dss_cons (ds_if (dt_cmp (c_eq hr rfl) (de_var 2 (pv 2) rfl) (de_con pe_int rfl fun _ => .int _) (nomark _)) (dss_one (ds_ret (de_call o_loosen hr (by decide) rfl (da_cons (de_var 0 (pv 0) rfl) (da_cons (de_ix (de_var 1 (pv 1) rfl) (de_con pe_int rfl fun _ => .int _) (fun _ _ => rfl)) (da_nil rfl)))))) dss_nil)
    (dss_cons (ds_if (dt_cmp (c_eq hr rfl) (de_var 2 (pv 2) rfl) (de_con pe_int rfl fun _ => .int _) (nomark _)) (dss_one (ds_ret (de_call o_settle hr (by decide) rfl (da_cons (de_var 0 (pv 0) rfl) (da_cons (de_ix (de_var 1 (pv 1) rfl) (de_con pe_int rfl fun _ => .int _) (fun _ _ => rfl)) (da_nil rfl)))))) dss_nil)
    (dss_one (ds_ret (de_call o_catch_up hr (by decide) rfl (da_cons (de_var 0 (pv 0) rfl) (da_nil rfl))))))))))))⟩
abbrev s_told : Stmt := topS 93
abbrev N_told : List Str := ["state", "call", "things", "sisters", "operation"]
theorem sc_told : FnScope N_told ["state", "call"] (defScope s_told) := ⟨rfl, rfl, rfl, by decide +kernel, rfl, by decide +kernel, by decide +kernel⟩
theorem ok_told (T : Txt K mg) (h : Has K mg "told" s_told) (o_tell_totals : Ok P w K mg base "tell_totals" 2 2 tell_totals_D) (o_tell_object : Ok P w K mg base "tell_object" 2 2 tell_object_D) (o_tell_shape : Ok P w K mg base "tell_shape" 3 2 tell_shape_D) (o_tell_same_shape : Ok P w K mg base "tell_same_shape" 2 3 tell_same_shape_D) (o_tell_find : Ok P w K mg base "tell_find" 2 3 tell_find_D) (o_tell_sisters : Ok P w K mg base "tell_sisters" 2 1 tell_sisters_D) (o_tell_would : Ok P w K mg base "tell_would" 7 4 tell_would_D) (o_judge : Ok P w K mg base "judge" 6 2 judge_D) (o_field_at : Ok P w K mg base "field_at" 1 2 field_at_D) : Ok P w K mg base "told" 8 2 told_D := by
  refine ok_def h sc_told rfl (fun _ _ _ _ _ _ us hl => match us, hl with | [_, _], _ => rfl) fun f cdv A outer s H E hr => ?_
  exact ⟨_, (dss_cons (ds_asg (de_var 0 (pv 0) rfl) (dg_tup (is := [2, 3]) rfl rfl (dgs_cons (pg_name (i := 2) sc_told.nd rfl (Or.inl rfl)) (dgs_cons (pg_name (i := 3) sc_told.nd rfl (Or.inl rfl)) dgs_nil))))
    (dss_cons (ds_set (i := 4) sc_told.nd rfl (Or.inl rfl) (de_ix (de_var 1 (pv 1) rfl) (de_con pe_int rfl fun _ => .int _) (fun _ _ => rfl)))
    (dss_cons (ds_if (dt_cmp (c_eq hr rfl) (de_var 4 (pv 4) rfl) (de_con pe_int rfl fun _ => .int _) (nomark _)) (dss_one (ds_ret (de_call o_tell_object hr (by decide) rfl (da_cons (de_var 2 (pv 2) rfl) (da_cons (de_ix (de_var 1 (pv 1) rfl) (de_con pe_int rfl fun _ => .int _) (fun _ _ => rfl)) (da_nil rfl)))))) dss_nil)
    (dss_cons (ds_if (dt_cmp (c_eq hr rfl) (de_var 4 (pv 4) rfl) (de_con pe_int rfl fun _ => .int _) (nomark _)) (dss_one (ds_ret (de_call o_tell_shape hr (by decide) rfl (da_cons (de_var 2 (pv 2) rfl) (da_cons (de_ix (de_var 1 (pv 1) rfl) (de_con pe_int rfl fun _ => .int _) (fun _ _ => rfl)) (da_nil rfl)))))) dss_nil)
    (dss_cons (ds_if (dt_cmp (c_eq hr rfl) (de_var 4 (pv 4) rfl) (de_con pe_int rfl fun _ => .int _) (nomark _)) (dss_one (ds_ret (de_call o_tell_same_shape hr (by decide) rfl (da_cons (de_var 2 (pv 2) rfl) (da_cons (de_ix (de_var 1 (pv 1) rfl) (de_con pe_int rfl fun _ => .int _) (fun _ _ => rfl)) (da_cons (de_ix (de_var 1 (pv 1) rfl) (de_con pe_int rfl fun _ => .int _) (fun _ _ => rfl)) (da_nil rfl))))))) dss_nil)
    (dss_cons (ds_if (dt_cmp (c_eq hr rfl) (de_var 4 (pv 4) rfl) (de_con pe_int rfl fun _ => .int _) (nomark _)) (dss_one (ds_ret (de_call o_tell_find hr (by decide) rfl (da_cons (de_var 2 (pv 2) rfl) (da_cons (de_ix (de_var 1 (pv 1) rfl) (de_con pe_int rfl fun _ => .int _) (fun _ _ => rfl)) (da_cons (de_ix (de_var 1 (pv 1) rfl) (de_con pe_int rfl fun _ => .int _) (fun _ _ => rfl)) (da_nil rfl))))))) dss_nil)
    (dss_cons (ds_if (dt_cmp (c_eq hr rfl) (de_var 4 (pv 4) rfl) (de_con pe_int rfl fun _ => .int _) (nomark _)) (dss_one (ds_ret (de_call o_tell_sisters hr (by decide) rfl (da_cons (de_var 3 (pv 3) rfl) (da_nil rfl))))) dss_nil)
    (dss_cons (ds_if (dt_cmp (c_eq hr rfl) (de_var 4 (pv 4) rfl) (de_con pe_int rfl fun _ => .int _) (nomark _)) (dss_one (ds_ret (de_call o_tell_would hr (by decide) rfl (da_cons (de_var 2 (pv 2) rfl) (da_cons (de_var 3 (pv 3) rfl) (da_cons (de_ix (de_var 1 (pv 1) rfl) (de_con pe_int rfl fun _ => .int _) (fun _ _ => rfl)) (da_cons (de_call o_field_at hr (by decide) rfl (da_cons (de_var 1 (pv 1) rfl) (da_cons (de_con pe_int rfl fun _ => .int _) (da_nil rfl)))) (da_nil rfl)))))))) dss_nil)
    (dss_cons (ds_if (dt_cmp (c_eq hr rfl) (de_var 4 (pv 4) rfl) (de_con pe_int rfl fun _ => .int _) (nomark _)) (dss_one (ds_ret (de_call o_judge hr (by decide) rfl (da_cons (de_var 2 (pv 2) rfl) (da_cons (de_slice (de_var 1 (pv 1) rfl) (dp_some (de_con pe_int rfl fun _ => .int _)) dp_none) (da_nil rfl)))))) dss_nil)
    (dss_one (ds_ret (de_call o_tell_totals hr (by decide) rfl (da_cons (de_var 2 (pv 2) rfl) (da_cons (de_var 3 (pv 3) rfl) (da_nil rfl)))))))))))))))⟩
abbrev s_carried_out : Stmt := topS 94
abbrev N_carried_out : List Str := ["state", "call"]
theorem sc_carried_out : FnScope N_carried_out ["state", "call"] (defScope s_carried_out) := ⟨rfl, rfl, rfl, by decide +kernel, rfl, by decide +kernel, by decide +kernel⟩
theorem ok_carried_out (T : Txt K mg) (h : Has K mg "carried_out" s_carried_out) (o_ordered : Ok P w K mg base "ordered" 9 2 ordered_D) (o_told : Ok P w K mg base "told" 8 2 told_D) : Ok P w K mg base "carried_out" 10 2 carried_out_D := by
  refine ok_def h sc_carried_out rfl (fun _ _ _ _ _ _ us hl => match us, hl with | [_, _], _ => rfl) fun f cdv A outer s H E hr => ?_
  exact ⟨_, (dss_cons (ds_if (dt_cmp c_le (de_ix (de_var 1 (pv 1) rfl) (de_con pe_int rfl fun _ => .int _) (fun _ _ => rfl)) (de_con pe_int rfl fun _ => .int _) (nomark _)) (dss_one (ds_ret (de_call o_ordered hr (by decide) rfl (da_cons (de_var 0 (pv 0) rfl) (da_cons (de_var 1 (pv 1) rfl) (da_nil rfl)))))) dss_nil)
    (dss_one (ds_ret (de_tup (da_cons (de_var 0 (pv 0) rfl) (da_cons (de_call o_told hr (by decide) rfl (da_cons (de_var 0 (pv 0) rfl) (da_cons (de_var 1 (pv 1) rfl) (da_nil rfl)))) (da_nil rfl)))))))⟩
abbrev s_answers : Stmt := topS 95
abbrev N_answers : List Str := ["calls", "given", "state", "left", "at", "size", "answer"]
theorem sc_answers : FnScope N_answers ["calls"] (defScope s_answers) := ⟨rfl, rfl, rfl, by decide +kernel, rfl, by decide +kernel, by decide +kernel⟩
theorem ok_answers (T : Txt K mg) (h : Has K mg "answers" s_answers) (o_call_size : Ok P w K mg base "call_size" 1 2 call_size_D) (o_carried_out : Ok P w K mg base "carried_out" 10 2 carried_out_D) : Ok P w K mg base "answers" 11 1 answers_D := by
  refine ok_def h sc_answers rfl (fun _ _ _ _ _ _ us hl => match us, hl with | [_], _ => rfl) fun f cdv A outer s H E hr => ?_
  exact ⟨_, (dss_cons (ds_ownN (i := 1) sc_answers.nd rfl (Or.inl rfl) (da_nil rfl))
    (dss_cons (ds_set (i := 2) sc_answers.nd rfl (Or.inl rfl) (de_tup (da_cons (de_tup (da_nil rfl)) (da_cons (de_tup (da_nil rfl)) (da_nil rfl)))))
    (dss_cons (ds_set (i := 3) sc_answers.nd rfl (Or.inl rfl) (de_len rfl T.n_len (da_cons (de_var 0 (pv 0) rfl) (da_nil rfl))))
    (dss_cons (ds_while 25001 PassesOwn.never (dt_cmp c_gt (de_var 3 (pv 3) rfl) (de_con pe_int rfl fun _ => .int _) (nomark _)) (dss_cons (ds_set (i := 4) sc_answers.nd rfl (Or.inl rfl) (de_minus (de_len rfl T.n_len (da_cons (de_var 0 (pv 0) rfl) (da_nil rfl))) (de_var 3 (pv 3) rfl)))
    (dss_cons (ds_set (i := 5) sc_answers.nd rfl (Or.inl rfl) (de_call o_call_size hr (by decide) rfl (da_cons (de_var 0 (pv 0) rfl) (da_cons (de_var 4 (pv 4) rfl) (da_nil rfl)))))
    (dss_cons (ds_asg (de_call o_carried_out hr (by decide) rfl (da_cons (de_var 2 (pv 2) rfl) (da_cons (de_slice (de_var 0 (pv 0) rfl) (dp_some (de_var 4 (pv 4) rfl)) (dp_some (de_plus (de_var 4 (pv 4) rfl) (de_var 5 (pv 5) rfl)))) (da_nil rfl)))) (dg_tup (is := [2, 6]) rfl rfl (dgs_cons (pg_name (i := 2) sc_answers.nd rfl (Or.inl rfl)) (dgs_cons (pg_name (i := 6) sc_answers.nd rfl (Or.inl rfl)) dgs_nil))))
    (dss_cons (ds_app (pv 1) (de_len rfl T.n_len (da_cons (de_var 6 (pv 6) rfl) (da_nil rfl))))
    (dss_cons (ds_extL (pv 1) (de_var 6 (pv 6) rfl))
    (dss_one (ds_set (i := 3) sc_answers.nd rfl (Or.inl rfl) (de_minus (de_var 3 (pv 3) rfl) (de_var 5 (pv 5) rfl))))))))))
    (dss_one (ds_ret (de_var 1 (pv 1) rfl)))))))⟩
theorem fn_answers {fA : Addr} {fdA : FuncData} (T : Txt K mg) (F : Fun K "answers" "answers" s_answers fA fdA) (o_call_size : Ok P w K mg base "call_size" 1 2 call_size_D) (o_carried_out : Ok P w K mg base "carried_out" 10 2 carried_out_D) : FnOk P w K mg base CX0 11 fA fdA ["calls"] (spD K 1 answers_D) := by
  refine fn_def F sc_answers rfl fun f cdv A outer s H E hr => ?_
  exact ⟨_, (dss_cons (ds_ownN (i := 1) sc_answers.nd rfl (Or.inl rfl) (da_nil rfl))
    (dss_cons (ds_set (i := 2) sc_answers.nd rfl (Or.inl rfl) (de_tup (da_cons (de_tup (da_nil rfl)) (da_cons (de_tup (da_nil rfl)) (da_nil rfl)))))
    (dss_cons (ds_set (i := 3) sc_answers.nd rfl (Or.inl rfl) (de_len rfl T.n_len (da_cons (de_var 0 (pv 0) rfl) (da_nil rfl))))
    (dss_cons (ds_while 25001 PassesOwn.never (dt_cmp c_gt (de_var 3 (pv 3) rfl) (de_con pe_int rfl fun _ => .int _) (nomark _)) (dss_cons (ds_set (i := 4) sc_answers.nd rfl (Or.inl rfl) (de_minus (de_len rfl T.n_len (da_cons (de_var 0 (pv 0) rfl) (da_nil rfl))) (de_var 3 (pv 3) rfl)))
    (dss_cons (ds_set (i := 5) sc_answers.nd rfl (Or.inl rfl) (de_call o_call_size hr (by decide) rfl (da_cons (de_var 0 (pv 0) rfl) (da_cons (de_var 4 (pv 4) rfl) (da_nil rfl)))))
    (dss_cons (ds_asg (de_call o_carried_out hr (by decide) rfl (da_cons (de_var 2 (pv 2) rfl) (da_cons (de_slice (de_var 0 (pv 0) rfl) (dp_some (de_var 4 (pv 4) rfl)) (dp_some (de_plus (de_var 4 (pv 4) rfl) (de_var 5 (pv 5) rfl)))) (da_nil rfl)))) (dg_tup (is := [2, 6]) rfl rfl (dgs_cons (pg_name (i := 2) sc_answers.nd rfl (Or.inl rfl)) (dgs_cons (pg_name (i := 6) sc_answers.nd rfl (Or.inl rfl)) dgs_nil))))
    (dss_cons (ds_app (pv 1) (de_len rfl T.n_len (da_cons (de_var 6 (pv 6) rfl) (da_nil rfl))))
    (dss_cons (ds_extL (pv 1) (de_var 6 (pv 6) rfl))
    (dss_one (ds_set (i := 3) sc_answers.nd rfl (Or.inl rfl) (de_minus (de_var 3 (pv 3) rfl) (de_var 5 (pv 5) rfl))))))))))
    (dss_one (ds_ret (de_var 1 (pv 1) rfl)))))))⟩
/-- every def keeps its promise -/
theorem all_ok {fA : Addr} {fdA : FuncData} (T : Txt K mg) (h_is_value : Has K mg "is_value" s_is_value) (h_constant : Has K mg "constant" s_constant) (h_has : Has K mg "has" s_has) (h_joined : Has K mg "joined" s_joined) (h_is_name : Has K mg "is_name" s_is_name) (h_is_zero_or_one : Has K mg "is_zero_or_one" s_is_zero_or_one) (h_is_field : Has K mg "is_field" s_is_field) (h_field_at : Has K mg "field_at" s_field_at) (h_listed_fields : Has K mg "listed_fields" s_listed_fields) (h_is_list_of_fields : Has K mg "is_list_of_fields" s_is_list_of_fields) (h_field_place : Has K mg "field_place" s_field_place) (h_has_name_twice : Has K mg "has_name_twice" s_has_name_twice) (h_told_field : Has K mg "told_field" s_told_field) (h_bare_shape : Has K mg "bare_shape" s_bare_shape) (h_constant_shape : Has K mg "constant_shape" s_constant_shape) (h_with_slot : Has K mg "with_slot" s_with_slot) (h_with_other_slot : Has K mg "with_other_slot" s_with_other_slot) (h_up_to : Has K mg "up_to" s_up_to) (h_with_prototype : Has K mg "with_prototype" s_with_prototype) (h_has_values : Has K mg "has_values" s_has_values) (h_told_shape : Has K mg "told_shape" s_told_shape) (h_told_layout : Has K mg "told_layout" s_told_layout) (h_how_many_shapes : Has K mg "how_many_shapes" s_how_many_shapes) (h_is_head : Has K mg "is_head" s_is_head) (h_kind_end : Has K mg "kind_end" s_kind_end) (h_slot_end : Has K mg "slot_end" s_slot_end) (h_claimed_slot : Has K mg "claimed_slot" s_claimed_slot) (h_claimed_field : Has K mg "claimed_field" s_claimed_field) (h_claimed_thing : Has K mg "claimed_thing" s_claimed_thing) (h_claimed_things : Has K mg "claimed_things" s_claimed_things) (h_fault_of : Has K mg "fault_of" s_fault_of) (h_judge : Has K mg "judge" s_judge) (h_sister_place : Has K mg "sister_place" s_sister_place) (h_with_risen : Has K mg "with_risen" s_with_risen) (h_layout_added : Has K mg "layout_added" s_layout_added) (h_layout_replaced : Has K mg "layout_replaced" s_layout_replaced) (h_layout_removed : Has K mg "layout_removed" s_layout_removed) (h_layout_linked : Has K mg "layout_linked" s_layout_linked) (h_layout_made : Has K mg "layout_made" s_layout_made) (h_outcome : Has K mg "outcome" s_outcome) (h_is_there : Has K mg "is_there" s_is_there) (h_is_known : Has K mg "is_known" s_is_known) (h_with_thing : Has K mg "with_thing" s_with_thing) (h_line_from : Has K mg "line_from" s_line_from) (h_with_field : Has K mg "with_field" s_with_field) (h_without_field : Has K mg "without_field" s_without_field) (h_caught_up : Has K mg "caught_up" s_caught_up) (h_put_refusal : Has K mg "put_refusal" s_put_refusal) (h_make_refusal : Has K mg "make_refusal" s_make_refusal) (h_make : Has K mg "make" s_make) (h_put : Has K mg "put" s_put) (h_take_out : Has K mg "take_out" s_take_out) (h_link : Has K mg "link" s_link) (h_loosen : Has K mg "loosen" s_loosen) (h_settle : Has K mg "settle" s_settle) (h_catch_up : Has K mg "catch_up" s_catch_up) (h_tell_object : Has K mg "tell_object" s_tell_object) (h_tell_shape : Has K mg "tell_shape" s_tell_shape) (h_tell_same_shape : Has K mg "tell_same_shape" s_tell_same_shape) (h_tell_find : Has K mg "tell_find" s_tell_find) (h_tell_sisters : Has K mg "tell_sisters" s_tell_sisters) (h_tell_would : Has K mg "tell_would" s_tell_would) (h_tell_totals : Has K mg "tell_totals" s_tell_totals) (h_call_size : Has K mg "call_size" s_call_size) (h_ordered : Has K mg "ordered" s_ordered) (h_told : Has K mg "told" s_told) (h_carried_out : Has K mg "carried_out" s_carried_out) (F : Fun K "answers" "answers" s_answers fA fdA) : FnOk P w K mg base CX0 11 fA fdA ["calls"] (spD K 1 answers_D) := by
  have o_is_value := ok_is_value (P := P) (w := w) (base := base) T h_is_value 
  have o_constant := ok_constant (P := P) (w := w) (base := base) T h_constant 
  have o_has := ok_has (P := P) (w := w) (base := base) T h_has o_constant
  have o_joined := ok_joined (P := P) (w := w) (base := base) T h_joined o_has
  have o_is_name := ok_is_name (P := P) (w := w) (base := base) T h_is_name 
  have o_is_zero_or_one := ok_is_zero_or_one (P := P) (w := w) (base := base) T h_is_zero_or_one 
  have o_is_field := ok_is_field (P := P) (w := w) (base := base) T h_is_field o_is_name o_is_zero_or_one o_is_value
  have o_field_at := ok_field_at (P := P) (w := w) (base := base) T h_field_at 
  have o_listed_fields := ok_listed_fields (P := P) (w := w) (base := base) T h_listed_fields o_field_at
  have o_is_list_of_fields := ok_is_list_of_fields (P := P) (w := w) (base := base) T h_is_list_of_fields o_is_field o_listed_fields
  have o_field_place := ok_field_place (P := P) (w := w) (base := base) T h_field_place 
  have o_has_name_twice := ok_has_name_twice (P := P) (w := w) (base := base) T h_has_name_twice o_field_place
  have o_told_field := ok_told_field (P := P) (w := w) (base := base) T h_told_field 
  have o_bare_shape := ok_bare_shape (P := P) (w := w) (base := base) T h_bare_shape 
  have o_constant_shape := ok_constant_shape (P := P) (w := w) (base := base) T h_constant_shape o_constant
  have o_with_slot := ok_with_slot (P := P) (w := w) (base := base) T h_with_slot 
  have o_with_other_slot := ok_with_other_slot (P := P) (w := w) (base := base) T h_with_other_slot 
  have o_up_to := ok_up_to (P := P) (w := w) (base := base) T h_up_to 
  have o_with_prototype := ok_with_prototype (P := P) (w := w) (base := base) T h_with_prototype 
  have o_has_values := ok_has_values (P := P) (w := w) (base := base) T h_has_values o_has
  have o_told_shape := ok_told_shape (P := P) (w := w) (base := base) T h_told_shape 
  have o_told_layout := ok_told_layout (P := P) (w := w) (base := base) T h_told_layout o_told_shape
  have o_how_many_shapes := ok_how_many_shapes (P := P) (w := w) (base := base) T h_how_many_shapes 
  have o_is_head := ok_is_head (P := P) (w := w) (base := base) T h_is_head 
  have o_kind_end := ok_kind_end (P := P) (w := w) (base := base) T h_kind_end o_is_value
  have o_slot_end := ok_slot_end (P := P) (w := w) (base := base) T h_slot_end o_kind_end o_is_name o_is_zero_or_one o_is_value
  have o_claimed_slot := ok_claimed_slot (P := P) (w := w) (base := base) T h_claimed_slot 
  have o_claimed_field := ok_claimed_field (P := P) (w := w) (base := base) T h_claimed_field 
  have o_claimed_thing := ok_claimed_thing (P := P) (w := w) (base := base) T h_claimed_thing o_is_head o_slot_end o_claimed_field o_claimed_slot
  have o_claimed_things := ok_claimed_things (P := P) (w := w) (base := base) T h_claimed_things o_claimed_thing
  have o_fault_of := ok_fault_of (P := P) (w := w) (base := base) T h_fault_of o_has_name_twice o_has_values
  have o_judge := ok_judge (P := P) (w := w) (base := base) T h_judge o_claimed_things o_fault_of o_how_many_shapes
  have o_sister_place := ok_sister_place (P := P) (w := w) (base := base) T h_sister_place 
  have o_with_risen := ok_with_risen (P := P) (w := w) (base := base) T h_with_risen o_joined
  have o_layout_added := ok_layout_added (P := P) (w := w) (base := base) T h_layout_added o_sister_place o_constant o_with_risen o_with_slot
  have o_layout_replaced := ok_layout_replaced (P := P) (w := w) (base := base) T h_layout_replaced o_with_other_slot o_sister_place o_up_to o_with_risen o_joined o_constant
  have o_layout_removed := ok_layout_removed (P := P) (w := w) (base := base) T h_layout_removed o_up_to
  have o_layout_linked := ok_layout_linked (P := P) (w := w) (base := base) T h_layout_linked o_with_prototype
  have o_layout_made := ok_layout_made (P := P) (w := w) (base := base) T h_layout_made o_bare_shape o_layout_added
  have o_outcome := ok_outcome (P := P) (w := w) (base := base) T h_outcome 
  have o_is_there := ok_is_there (P := P) (w := w) (base := base) T h_is_there 
  have o_is_known := ok_is_known (P := P) (w := w) (base := base) T h_is_known o_is_there
  have o_with_thing := ok_with_thing (P := P) (w := w) (base := base) T h_with_thing 
  have o_line_from := ok_line_from (P := P) (w := w) (base := base) T h_line_from 
  have o_with_field := ok_with_field (P := P) (w := w) (base := base) T h_with_field o_field_place o_layout_replaced o_layout_added
  have o_without_field := ok_without_field (P := P) (w := w) (base := base) T h_without_field o_layout_removed
  have o_caught_up := ok_caught_up (P := P) (w := w) (base := base) T h_caught_up o_layout_made
  have o_put_refusal := ok_put_refusal (P := P) (w := w) (base := base) T h_put_refusal o_is_field o_is_there o_is_known o_field_place
  have o_make_refusal := ok_make_refusal (P := P) (w := w) (base := base) T h_make_refusal o_listed_fields o_has_name_twice o_is_list_of_fields o_is_known
  have o_make := ok_make (P := P) (w := w) (base := base) T h_make o_make_refusal o_listed_fields o_layout_made
  have o_put := ok_put (P := P) (w := w) (base := base) T h_put o_put_refusal o_with_field o_with_thing o_outcome
  have o_take_out := ok_take_out (P := P) (w := w) (base := base) T h_take_out o_field_place o_without_field o_is_name o_is_there o_with_thing o_outcome
  have o_link := ok_link (P := P) (w := w) (base := base) T h_link o_layout_linked o_line_from o_is_there o_with_thing o_outcome
  have o_loosen := ok_loosen (P := P) (w := w) (base := base) T h_loosen o_is_there o_with_thing o_outcome
  have o_settle := ok_settle (P := P) (w := w) (base := base) T h_settle o_is_there o_constant_shape o_with_thing
  have o_catch_up := ok_catch_up (P := P) (w := w) (base := base) T h_catch_up o_caught_up
  have o_tell_object := ok_tell_object (P := P) (w := w) (base := base) T h_tell_object o_is_there o_told_field
  have o_tell_shape := ok_tell_shape (P := P) (w := w) (base := base) T h_tell_shape o_is_there o_told_layout
  have o_tell_same_shape := ok_tell_same_shape (P := P) (w := w) (base := base) T h_tell_same_shape o_is_there
  have o_tell_find := ok_tell_find (P := P) (w := w) (base := base) T h_tell_find o_line_from o_is_name o_is_there o_field_place
  have o_tell_sisters := ok_tell_sisters (P := P) (w := w) (base := base) T h_tell_sisters o_told_shape
  have o_tell_would := ok_tell_would (P := P) (w := w) (base := base) T h_tell_would o_put_refusal o_with_field o_told_layout o_outcome
  have o_tell_totals := ok_tell_totals (P := P) (w := w) (base := base) T h_tell_totals o_how_many_shapes
  have o_call_size := ok_call_size (P := P) (w := w) (base := base) T h_call_size 
  have o_ordered := ok_ordered (P := P) (w := w) (base := base) T h_ordered o_catch_up o_make o_put o_take_out o_link o_loosen o_settle o_field_at
  have o_told := ok_told (P := P) (w := w) (base := base) T h_told o_tell_totals o_tell_object o_tell_shape o_tell_same_shape o_tell_find o_tell_sisters o_tell_would o_judge o_field_at
  have o_carried_out := ok_carried_out (P := P) (w := w) (base := base) T h_carried_out o_ordered o_told
  exact fn_answers T F o_call_size o_carried_out
end
end Sb
end
section
set_option Elab.async false
set_option linter.all false
set_option maxRecDepth 100000
set_option maxHeartbeats 4000000
/-! ### the program's data, typed -/
namespace Sb
abbrev Val := Int × Int
inductive Kd where
  | cst (v : Val)
  | knd (n : Int)
  deriving DecidableEq
structure Fld where
  name : Int
  rd : Int
  val : Val
  deriving DecidableEq
structure Slt where
  name : Int
  rd : Int
  kind : Kd
  deriving DecidableEq
structure Shp where
  proto : Int
  slots : List Slt
  deriving DecidableEq
structure Thg where
  proto : Int
  fields : List Fld
  lay : Option Shp
  deriving DecidableEq
structure Sis where
  shape : Shp
  name : Int
  rd : Int
  kind : Kd
  deriving DecidableEq
def eVal (v : Val) : D := .tup [.int v.1, .int v.2]
def eKd : Kd → D
  | .cst v => .tup [.int 0, .int v.1, .int v.2]
  | .knd n => .tup [.int n]
def eFld (f : Fld) : D := .tup [.int f.name, .int f.rd, eVal f.val]
def eSlt (s : Slt) : D := .tup [.int s.name, .int s.rd, eKd s.kind]
def eSlts (l : List Slt) : D := .tup (l.map eSlt)
def eFlds (l : List Fld) : D := .tup (l.map eFld)
def eShp (s : Shp) : D := .tup [.int s.proto, eSlts s.slots]
def eLay : Option Shp → D
  | none => .non
  | some s => eShp s
def eThg (t : Thg) : D := .tup [.int t.proto, eFlds t.fields, eLay t.lay]
def eSis (s : Sis) : D := .tup [eShp s.shape, .int s.name, .int s.rd, eKd s.kind]
def eThgs (l : List Thg) : D := .tup (l.map eThg)
def eSiss (l : List Sis) : D := .tup (l.map eSis)
def eInts (l : List Int) : D := .lst (l.map D.int)

theorem eVal_inj {a b : Val} : eVal a = eVal b ↔ a = b := by
  obtain ⟨a1, a2⟩ := a; obtain ⟨b1, b2⟩ := b
  simp [eVal]
theorem eKd_inj {a b : Kd} : eKd a = eKd b ↔ a = b := by
  cases a <;> cases b <;> simp [eKd]
  rename_i v w
  obtain ⟨a1, a2⟩ := v; obtain ⟨b1, b2⟩ := w
  simp
theorem map_inj {α : Type} {e : α → D} (h : ∀ {a b : α}, e a = e b ↔ a = b) : ∀ {l m : List α}, l.map e = m.map e ↔ l = m
  | [], [] => by simp
  | [], _ :: _ => by simp
  | _ :: _, [] => by simp
  | a :: l, b :: m => by simp [h, map_inj h (l := l) (m := m)]
theorem eFld_inj {a b : Fld} : eFld a = eFld b ↔ a = b := by
  obtain ⟨a1, a2, a3⟩ := a; obtain ⟨b1, b2, b3⟩ := b
  simp [eFld, eVal_inj]
theorem eSlt_inj {a b : Slt} : eSlt a = eSlt b ↔ a = b := by
  obtain ⟨a1, a2, a3⟩ := a; obtain ⟨b1, b2, b3⟩ := b
  simp [eSlt, eKd_inj]
theorem eSlts_inj {a b : List Slt} : eSlts a = eSlts b ↔ a = b := by simp [eSlts, map_inj eSlt_inj]
theorem eFlds_inj {a b : List Fld} : eFlds a = eFlds b ↔ a = b := by simp [eFlds, map_inj eFld_inj]
theorem eShp_inj {a b : Shp} : eShp a = eShp b ↔ a = b := by
  obtain ⟨a1, a2⟩ := a; obtain ⟨b1, b2⟩ := b
  simp [eShp, eSlts_inj]
theorem eLay_inj {a b : Option Shp} : eLay a = eLay b ↔ a = b := by
  cases a <;> cases b <;> simp [eLay, eShp_inj]
  all_goals simp [eShp]
theorem okL_map {α : Type} {e : α → D} {n : Nat} (h : ∀ a, okD n (e a) = true) : ∀ l : List α, okL n (l.map e) = true
  | [] => by simp [okL]
  | a :: l => by simp [okL, h a, okL_map h l]
theorem ok_int {n : Nat} {i : Int} : okD n (.int i) = true := by cases n <;> simp [okD]
theorem ok_non {n : Nat} : okD n .non = true := by cases n <;> simp [okD]
theorem ok_val {n : Nat} (v : Val) : okD (n + 1) (eVal v) = true := by simp [eVal, okD, okL, ok_int]
theorem ok_kd {n : Nat} (k : Kd) : okD (n + 1) (eKd k) = true := by cases k <;> simp [eKd, okD, okL, ok_int]
theorem ok_fld {n : Nat} (f : Fld) : okD (n + 2) (eFld f) = true := by simp [eFld, okD, okL, ok_int, ok_val]
theorem ok_slt {n : Nat} (f : Slt) : okD (n + 2) (eSlt f) = true := by simp [eSlt, okD, okL, ok_int, ok_kd]
theorem ok_slts {n : Nat} (l : List Slt) : okD (n + 3) (eSlts l) = true := by
  show okL (n + 2) (l.map eSlt) = true
  exact okL_map ok_slt l
theorem ok_flds {n : Nat} (l : List Fld) : okD (n + 3) (eFlds l) = true := by
  show okL (n + 2) (l.map eFld) = true
  exact okL_map ok_fld l
theorem ok_shp {n : Nat} (s : Shp) : okD (n + 4) (eShp s) = true := by
  show okL (n + 3) [.int s.proto, eSlts s.slots] = true
  simp [okL, ok_int, ok_slts]
theorem ok_lay {n : Nat} (s : Option Shp) : okD (n + 4) (eLay s) = true := by
  cases s with
  | none => exact ok_non
  | some s => exact ok_shp s
theorem gEq_of {α : Type} {e : α → D} (ok : ∀ a, okD 60 (e a) = true) (inj : ∀ {a b : α}, e a = e b ↔ a = b) [DecidableEq α] (a b : α) : gEq (e a) (e b) = some (.bl (decide (a = b))) := by
  unfold gEq
  rw [ok a, ok b]
  simp only [Bool.and_self, if_true, Option.some.injEq, D.bl.injEq]
  have q := eqD_dec (ok a) (ok b)
  by_cases h : a = b
  · rw [decide_eq_true h]
    exact q.mpr (inj.mpr h)
  · rw [decide_eq_false h]
    cases c : eqD (e a) (e b) with
    | false => rfl
    | true => exact absurd (inj.mp (q.mp c)) h
theorem gNe_of {α : Type} {e : α → D} (ok : ∀ a, okD 60 (e a) = true) (inj : ∀ {a b : α}, e a = e b ↔ a = b) [DecidableEq α] (a b : α) : gNe (e a) (e b) = some (.bl (!decide (a = b))) := by
  have h := gEq_of ok inj a b
  unfold gEq at h
  unfold gNe
  rw [ok a, ok b] at h ⊢
  simp only [Bool.and_self, if_true, Option.some.injEq, D.bl.injEq] at h ⊢
  rw [h]
@[simp] theorem gEq_int (a b : Int) : gEq (.int a) (.int b) = some (.bl (decide (a = b))) := gEq_of (e := D.int) (fun _ => ok_int) (by simp) a b
@[simp] theorem gNe_int (a b : Int) : gNe (.int a) (.int b) = some (.bl (!decide (a = b))) := gNe_of (e := D.int) (fun _ => ok_int) (by simp) a b
@[simp] theorem gEq_kd (a b : Kd) : gEq (eKd a) (eKd b) = some (.bl (decide (a = b))) := gEq_of ok_kd eKd_inj a b
@[simp] theorem gEq_shp (a b : Shp) : gEq (eShp a) (eShp b) = some (.bl (decide (a = b))) := gEq_of ok_shp eShp_inj a b
@[simp] theorem gNe_lay (a b : Option Shp) : gNe (eLay a) (eLay b) = some (.bl (!decide (a = b))) := gNe_of ok_lay eLay_inj a b
@[simp] theorem gNe_flds (a b : List Fld) : gNe (eFlds a) (eFlds b) = some (.bl (!decide (a = b))) := gNe_of ok_flds eFlds_inj a b
end Sb
end
section
set_option Elab.async false
set_option linter.all false
set_option maxRecDepth 100000
set_option maxHeartbeats 4000000
/-! ### how denotations are reckoned -/
namespace Sb
open L2 (atI ixN)
@[simp] theorem s_fVar (i : Nat) (sl : Sl) : fVar i sl = (sl[i]?).join := id rfl
@[simp] theorem s_fC (d : D) (sl : Sl) : fC d sl = some d := id rfl
@[simp] theorem s_f1 (g : D → Option D) (fa : Sl → Option D) (sl : Sl) : f1 g fa sl = (fa sl).bind g := id rfl
@[simp] theorem s_f2 (g : D → D → Option D) (fa fb : Sl → Option D) (sl : Sl) : f2 g fa fb sl = (fa sl).bind fun x => (fb sl).bind fun y => g x y := id rfl
theorem bind_iteB {α β : Type} (c : Prop) [Decidable c] (a b : Option α) (f : α → Option β) : (if c then a else b).bind f = if c then a.bind f else b.bind f := by split <;> rfl
theorem s_f3 (g g' : D → D → Option D) (fa fb fc : Sl → Option D) (sl : Sl) : f3 g g' fa fb fc sl = (fa sl).bind fun x => (fb sl).bind fun y => (g x y).bind fun z => match z with
  | .bl k => if k = true then (fc sl).bind fun w => g' y w else some (.bl false)
  | _ => none := id rfl
@[simp] theorem s_chain (fa fb fc : Sl → Option D) (sl : Sl) (i j k : Int) (h1 : fa sl = some (.int i)) (h2 : fb sl = some (.int j)) (h3 : fc sl = some (.int k)) : f3 gLe gLe fa fb fc sl = some (.bl (decide (i ≤ j ∧ j ≤ k))) := by
  unfold f3
  rw [h1, h2, h3]
  simp only [Option.bind_some, gLe]
  by_cases h : i ≤ j <;> simp [h]
@[simp] theorem s_chainL (fa fb fc : Sl → Option D) (sl : Sl) (i j k : Int) (h1 : fa sl = some (.int i)) (h2 : fb sl = some (.int j)) (h3 : fc sl = some (.int k)) : f3 gLe gLt fa fb fc sl = some (.bl (decide (i ≤ j ∧ j < k))) := by
  unfold f3
  rw [h1, h2, h3]
  simp only [Option.bind_some, gLe, gLt]
  by_cases h : i ≤ j <;> simp [h]
@[simp] theorem s_fNil (sl : Sl) : fNil sl = some [] := id rfl
@[simp] theorem s_fCons (fa : Sl → Option D) (fr : Sl → Option (List D)) (sl : Sl) : fCons fa fr sl = (fa sl).bind fun x => (fr sl).bind fun xs => some (x :: xs) := id rfl
@[simp] theorem s_fTup (f : Sl → Option (List D)) (sl : Sl) : fTup f sl = (f sl).bind fun ds => if ds.length ≤ 1000 then some (.tup ds) else none := id rfl
@[simp] theorem s_fLst (f : Sl → Option (List D)) (sl : Sl) : fLst f sl = (f sl).bind fun ds => if ds.length ≤ 1000 then some (.lst ds) else none := id rfl
@[simp] theorem s_fCall (n : Nat) (F : List D → Option D) (f : Sl → Option (List D)) (sl : Sl) : fCall n F f sl = (f sl).bind fun ds => if ds.length = n then F ds else none := id rfl
@[simp] theorem s_fB (g : List D → Option D) (f : Sl → Option (List D)) (sl : Sl) : fB g f sl = (f sl).bind g := id rfl
@[simp] theorem s_fT (f : Sl → Option D) (sl : Sl) : fT f sl = (f sl).bind fun d => match d with
  | .bl b => some b
  | _ => none := id rfl
@[simp] theorem s_fAnd (a b : Sl → Option Bool) (sl : Sl) : fAnd a b sl = (a sl).bind fun c => if c = true then b sl else some false := id rfl
@[simp] theorem s_fOr (a b : Sl → Option Bool) (sl : Sl) : fOr a b sl = (a sl).bind fun c => if c = true then some true else b sl := id rfl
@[simp] theorem s_fNot (a : Sl → Option Bool) (sl : Sl) : fNot a sl = (a sl).map fun c => !c := id rfl
@[simp] theorem s_fAndV (a b : Sl → Option D) (sl : Sl) : fAndV a b sl = (fT a sl).bind fun c => if c = true then b sl else some (.bl false) := id rfl
@[simp] theorem s_fOrV (a b : Sl → Option D) (sl : Sl) : fOrV a b sl = (fT a sl).bind fun c => if c = true then some (.bl true) else b sl := id rfl
@[simp] theorem s_pNone (sl : Sl) : pNone sl = some none := id rfl
@[simp] theorem s_pSome (f : Sl → Option D) (sl : Sl) : pSome f sl = (f sl).bind fun d => match d with
  | .int i => some (some i)
  | _ => none := id rfl
@[simp] theorem s_fSl (fa : Sl → Option D) (fl fh : Sl → Option (Option Int)) (sl : Sl) : fSl fa fl fh sl = (fa sl).bind fun x => (fl sl).bind fun l => (fh sl).bind fun h => gSl x l h := id rfl
@[simp] theorem s_gAddI (i j : Int) : gAdd (.int i) (.int j) = some (.int (i + j)) := id rfl
@[simp] theorem s_gSubI (i j : Int) : gSub (.int i) (.int j) = some (.int (i - j)) := id rfl
@[simp] theorem s_gNegI (i : Int) : gNeg (.int i) = some (.int (-i)) := id rfl
@[simp] theorem s_gModI (i j : Int) : gMod (.int i) (.int j) = if 0 < j then some (.int (i % j)) else none := id rfl
@[simp] theorem s_gLt (i j : Int) : gLt (.int i) (.int j) = some (.bl (decide (i < j))) := id rfl
@[simp] theorem s_gLe (i j : Int) : gLe (.int i) (.int j) = some (.bl (decide (i ≤ j))) := id rfl
@[simp] theorem s_gGt (i j : Int) : gGt (.int i) (.int j) = some (.bl (decide (j < i))) := id rfl
@[simp] theorem s_gGe (i j : Int) : gGe (.int i) (.int j) = some (.bl (decide (j ≤ i))) := id rfl
@[simp] theorem s_sNext (e : SE) : sNext e = some (.nx e) := id rfl
@[simp] theorem s_sSeq (g h : SE → Option Out) (e : SE) : sSeq g h e = (g e).bind fun o => match o with
  | .nx e' => h e'
  | .rt d => some (.rt d) := id rfl
@[simp] theorem s_frz0 (sl : Sl) : frz ⟨sl, none⟩ = sl := id rfl
@[simp] theorem s_frz1 (sl : Sl) (i : Nat) (ds : List D) : frz ⟨sl, some (i, ds)⟩ = sl.set i (some (.lst ds)) := id rfl
@[simp] theorem s_sRet (f : Sl → Option D) (e : SE) : sRet f e = (f (frz e)).map Out.rt := id rfl
@[simp] theorem s_sIf (c : Sl → Option Bool) (g h : SE → Option Out) (e : SE) : sIf c g h e = (c (frz e)).bind fun b => if b = true then g e else h e := id rfl
@[simp] theorem s_own0 (sl : Sl) (is : List Nat) : ownOff ⟨sl, none⟩ is = true := id rfl
@[simp] theorem s_own1 (sl : Sl) (i : Nat) (ds : List D) (is : List Nat) : ownOff ⟨sl, some (i, ds)⟩ is = !is.contains i := id rfl
@[simp] theorem s_sAsg (f : Sl → Option D) (is : List Nat) (fg : D → Sl → Option Sl) (e : SE) : sAsg f is fg e = (f e.sl).bind fun d => (fg d e.sl).bind fun sl' => if ownOff e is = true then some (.nx ⟨sl', e.own⟩) else none := id rfl
@[simp] theorem s_tgN (i : Nat) (d : D) (sl : Sl) : tgN i d sl = some (sl.set i (some d)) := id rfl
@[simp] theorem s_tgT (is : List Nat) (ds : List D) (sl : Sl) : tgT is (.tup ds) sl = if ds.length = is.length then some (setL is ds sl) else none := id rfl
@[simp] theorem s_setL0 (sl : Sl) : setL [] [] sl = sl := id rfl
@[simp] theorem s_setL1 (i : Nat) (is : List Nat) (d : D) (ds : List D) (sl : Sl) : setL (i :: is) (d :: ds) sl = setL is ds (sl.set i (some d)) := id rfl
@[simp] theorem s_sOwn (f : Sl → Option (List D)) (i : Nat) (e : SE) : sOwn f i e = (f e.sl).bind fun ds => if e.own.isNone = true ∧ ds.length ≤ 1000 ∧ i < e.sl.length then some (.nx ⟨e.sl.set i none, some (i, ds)⟩) else none := id rfl
@[simp] theorem s_sApp (i j : Nat) (ds : List D) (f : Sl → Option D) (sl : Sl) : sApp i f ⟨sl, some (j, ds)⟩ = if j = i ∧ ds.length < line then (f sl).map fun d => .nx ⟨sl, some (i, ds ++ [d])⟩ else none := id rfl
def outD : Option Out → Option D
  | some (.rt d) => some d
  | _ => none
@[simp] theorem outD_rt (d : D) : outD (some (.rt d)) = some d := id rfl
theorem runD_of {m : Nat} {g : SE → Option Out} {ds : List D} : runD ds.length m g ds = outD (g ⟨ds.map some ++ List.replicate (m - ds.length) none, none⟩) := by
  unfold runD
  rw [if_pos rfl]
  rfl
@[simp] theorem runD1 (m : Nat) (g : SE → Option Out) (a : D) : runD 1 m g [a] = outD (g ⟨some a :: List.replicate (m - 1) none, none⟩) := runD_of (ds := [a])
@[simp] theorem runD2 (m : Nat) (g : SE → Option Out) (a b : D) : runD 2 m g [a, b] = outD (g ⟨some a :: some b :: List.replicate (m - 2) none, none⟩) := runD_of (ds := [a, b])
@[simp] theorem runD3 (m : Nat) (g : SE → Option Out) (a b c : D) : runD 3 m g [a, b, c] = outD (g ⟨some a :: some b :: some c :: List.replicate (m - 3) none, none⟩) := runD_of (ds := [a, b, c])
@[simp] theorem runD4 (m : Nat) (g : SE → Option Out) (a b c d : D) : runD 4 m g [a, b, c, d] = outD (g ⟨some a :: some b :: some c :: some d :: List.replicate (m - 4) none, none⟩) := runD_of (ds := [a, b, c, d])
/-! reading encodings -/
@[simp] theorem ix_val0 (v : Val) : gIx (eVal v) (.int 0) = some (.int v.1) := id rfl
@[simp] theorem ix_val1 (v : Val) : gIx (eVal v) (.int 1) = some (.int v.2) := id rfl
@[simp] theorem ix_fld0 (v : Fld) : gIx (eFld v) (.int 0) = some (.int v.name) := id rfl
@[simp] theorem ix_fld1 (v : Fld) : gIx (eFld v) (.int 1) = some (.int v.rd) := id rfl
@[simp] theorem ix_fld2 (v : Fld) : gIx (eFld v) (.int 2) = some (eVal v.val) := id rfl
@[simp] theorem ix_slt0 (v : Slt) : gIx (eSlt v) (.int 0) = some (.int v.name) := id rfl
@[simp] theorem ix_slt1 (v : Slt) : gIx (eSlt v) (.int 1) = some (.int v.rd) := id rfl
@[simp] theorem ix_slt2 (v : Slt) : gIx (eSlt v) (.int 2) = some (eKd v.kind) := id rfl
@[simp] theorem ix_shp0 (v : Shp) : gIx (eShp v) (.int 0) = some (.int v.proto) := id rfl
@[simp] theorem ix_shp1 (v : Shp) : gIx (eShp v) (.int 1) = some (eSlts v.slots) := id rfl
@[simp] theorem ix_thg0 (v : Thg) : gIx (eThg v) (.int 0) = some (.int v.proto) := id rfl
@[simp] theorem ix_thg1 (v : Thg) : gIx (eThg v) (.int 1) = some (eFlds v.fields) := id rfl
@[simp] theorem ix_thg2 (v : Thg) : gIx (eThg v) (.int 2) = some (eLay v.lay) := id rfl
@[simp] theorem ix_sis0 (v : Sis) : gIx (eSis v) (.int 0) = some (eShp v.shape) := id rfl
@[simp] theorem ix_sis1 (v : Sis) : gIx (eSis v) (.int 1) = some (.int v.name) := id rfl
@[simp] theorem ix_sis2 (v : Sis) : gIx (eSis v) (.int 2) = some (.int v.rd) := id rfl
@[simp] theorem ix_sis3 (v : Sis) : gIx (eSis v) (.int 3) = some (eKd v.kind) := id rfl
@[simp] theorem ix_kdc0 (v : Val) : gIx (eKd (.cst v)) (.int 0) = some (.int 0) := id rfl
@[simp] theorem ix_kdc1 (v : Val) : gIx (eKd (.cst v)) (.int 1) = some (.int v.1) := id rfl
@[simp] theorem ix_kdk0 (n : Int) : gIx (eKd (.knd n)) (.int 0) = some (.int n) := id rfl
@[simp] theorem tg_val (i j : Nat) (v : Val) (sl : Sl) : tgT [i, j] (eVal v) sl = some ((sl.set i (some (.int v.1))).set j (some (.int v.2))) := id rfl
@[simp] theorem tg_fld (i j k : Nat) (v : Fld) (sl : Sl) : tgT [i, j, k] (eFld v) sl = some (((sl.set i (some (.int v.name))).set j (some (.int v.rd))).set k (some (eVal v.val))) := id rfl
@[simp] theorem tg_slt (i j k : Nat) (v : Slt) (sl : Sl) : tgT [i, j, k] (eSlt v) sl = some (((sl.set i (some (.int v.name))).set j (some (.int v.rd))).set k (some (eKd v.kind))) := id rfl
@[simp] theorem tg_shp (i j : Nat) (v : Shp) (sl : Sl) : tgT [i, j] (eShp v) sl = some ((sl.set i (some (.int v.proto))).set j (some (eSlts v.slots))) := id rfl
@[simp] theorem tg_thg (i j k : Nat) (v : Thg) (sl : Sl) : tgT [i, j, k] (eThg v) sl = some (((sl.set i (some (.int v.proto))).set j (some (eFlds v.fields))).set k (some (eLay v.lay))) := id rfl
@[simp] theorem tg_sis (i j k l : Nat) (v : Sis) (sl : Sl) : tgT [i, j, k, l] (eSis v) sl = some ((((sl.set i (some (eShp v.shape))).set j (some (.int v.name))).set k (some (.int v.rd))).set l (some (eKd v.kind))) := id rfl
/-! building them -/
@[simp] theorem b_val (a b : Int) : D.tup [.int a, .int b] = eVal (a, b) := id rfl
@[simp] theorem b_kdc (a b : Int) : D.tup [.int 0, .int a, .int b] = eKd (.cst (a, b)) := id rfl
@[simp] theorem b_kdk (n : Int) : D.tup [.int n] = eKd (.knd n) := id rfl
@[simp] theorem b_fld (a b : Int) (v : Val) : D.tup [.int a, .int b, eVal v] = eFld ⟨a, b, v⟩ := id rfl
@[simp] theorem b_slt (a b : Int) (k : Kd) : D.tup [.int a, .int b, eKd k] = eSlt ⟨a, b, k⟩ := id rfl
@[simp] theorem b_shp (a : Int) (l : List Slt) : D.tup [.int a, eSlts l] = eShp ⟨a, l⟩ := id rfl
@[simp] theorem b_thg (a : Int) (l : List Fld) (y : Option Shp) : D.tup [.int a, eFlds l, eLay y] = eThg ⟨a, l, y⟩ := id rfl
@[simp] theorem b_thgN (a : Int) (l : List Fld) : D.tup [.int a, eFlds l, .non] = eThg ⟨a, l, none⟩ := id rfl
@[simp] theorem b_thgS (a : Int) (l : List Fld) (s : Shp) : D.tup [.int a, eFlds l, eShp s] = eThg ⟨a, l, some s⟩ := id rfl
@[simp] theorem b_sis (s : Shp) (a b : Int) (k : Kd) : D.tup [eShp s, .int a, .int b, eKd k] = eSis ⟨s, a, b, k⟩ := id rfl
@[simp] theorem lay_none : eLay none = .non := id rfl
@[simp] theorem lay_some (s : Shp) : eLay (some s) = eShp s := id rfl
@[simp] theorem is_non : gIs .non .non = some (.bl true) := id rfl
@[simp] theorem is_shp (s : Shp) : gIs (eShp s) .non = some (.bl false) := id rfl
@[simp] theorem is_lay (s : Option Shp) : gIs (eLay s) .non = some (.bl s.isNone) := by cases s <;> rfl
@[simp] theorem isNot_lay (s : Option Shp) : gIsNot (eLay s) .non = some (.bl s.isSome) := by cases s <;> rfl

/-! ### kinds -/
def mIsValue (v : Val) : Bool := if v.1 = 0 then decide (v.2 = 0) else if v.1 = 1 then decide (0 ≤ v.2 ∧ v.2 ≤ 1) else if v.1 = 2 then decide (-1000000000 ≤ v.2 ∧ v.2 ≤ 1000000000) else if v.1 = 3 then decide (0 ≤ v.2 ∧ v.2 ≤ 25) else if v.1 = 4 then decide (0 ≤ v.2 ∧ v.2 ≤ 39) else if v.1 = 5 then decide (0 ≤ v.2 ∧ v.2 ≤ 9) else false
def mHas : Kd → Val → Bool
  | .cst w, v => decide (w = v)
  | .knd n, v => decide (n = 6) || decide (n = v.1)
def mJoined (k : Kd) (v : Val) : Kd := if mHas k v = true then k else match k with
  | .cst w => if w.1 = v.1 then .knd v.1 else .knd 6
  | .knd _ => .knd 6
@[simp] theorem is_value_eq (v : Val) : is_value_D [eVal v] = some (.bl (mIsValue v)) := by
  obtain ⟨a, b⟩ := v
  unfold is_value_D mIsValue
  simp [g_is_value]
  by_cases h0 : a = 0
  · simp [h0]
  · simp [h0]
    by_cases h1 : a = 1
    · simp [h1]
    · simp [h1]
      by_cases h2 : a = 2
      · simp [h2]
      · simp [h2]
        by_cases h3 : a = 3
        · simp [h3]
        · simp [h3]
          by_cases h4 : a = 4
          · simp [h4]
          · simp [h4]
            by_cases h5 : a = 5
            · simp [h5]
            · simp [h5]
end Sb
end
section
set_option Elab.async false
set_option linter.all false
set_option maxRecDepth 100000
set_option maxHeartbeats 4000000
namespace Sb
open L2 (atI ixN)
/-! ### kinds -/
def KOk : Kd → Prop
  | .cst _ => True
  | .knd n => n ≠ 0
@[simp] theorem constant_eq (v : Val) : constant_D [eVal v] = some (eKd (.cst v)) := by
  unfold constant_D
  simp [g_constant]
theorem has_eq (k : Kd) (v : Val) (h : KOk k) : has_D [eKd k, eVal v] = some (.bl (mHas k v)) := by
  unfold has_D
  cases k with
  | cst w => simp [g_has, mHas]
  | knd n =>
    have h' : ¬ n = 0 := h
    simp [g_has, mHas, h']
    by_cases h6 : n = 6
    · simp [h6]
    · simp [h6]
theorem joined_eq (k : Kd) (v : Val) (h : KOk k) : joined_D [eKd k, eVal v] = some (eKd (mJoined k v)) := by
  unfold joined_D
  cases hh : mHas k v with
  | true => simp [g_joined, has_eq k v h, mJoined, hh]
  | false =>
    cases k with
    | cst w =>
      simp [g_joined, has_eq _ v h, mJoined, hh]
      by_cases e : w.1 = v.1
      · simp [e]
      · simp [e]
    | knd n =>
      have h' : ¬ n = 0 := h
      simp [g_joined, has_eq _ v h, mJoined, hh, h']

/-! ### fields -/
def mIsName (n : Int) : Bool := decide (0 ≤ n ∧ n ≤ 25)
def mBit (n : Int) : Bool := decide (0 ≤ n ∧ n ≤ 1)
def mIsField (f : Fld) : Bool := mIsName f.name && (mBit f.rd && mIsValue f.val)
@[simp] theorem is_name_eq (n : Int) : is_name_D [.int n] = some (.bl (mIsName n)) := by
  unfold is_name_D
  simp [g_is_name, mIsName]
@[simp] theorem bit_eq (n : Int) : is_zero_or_one_D [.int n] = some (.bl (mBit n)) := by
  unfold is_zero_or_one_D
  simp [g_is_zero_or_one, mBit]
@[simp] theorem is_field_eq (f : Fld) : is_field_D [eFld f] = some (.bl (mIsField f)) := by
  unfold is_field_D mIsField
  simp [g_is_field]
  cases mIsName f.name <;> cases mBit f.rd <;> simp
theorem atI_n {α : Type} (l : List α) (i : Nat) : atI l (i : Int) = l[i]? := by
  unfold atI ixN
  by_cases h : i < l.length
  · simp [h]
  · simp [h]
theorem ix_ints (ns : List Int) (i : Nat) : gIx (eInts ns) (.int (i : Int)) = (ns[i]?).map D.int := by
  show atI (ns.map D.int) (i : Int) = _
  rw [atI_n, List.getElem?_map]
theorem ix_intsN {ns : List Int} {i : Nat} (h : i < ns.length) : gIx (eInts ns) (.int (i : Int)) = some (.int (ns.getD i 0)) := by
  rw [ix_ints]
  simp [List.getD, h]
theorem ix_intsP {ns : List Int} {i k : Nat} (h : i + k < ns.length) : gIx (eInts ns) (.int ((i : Int) + (k : Int))) = some (.int (ns.getD (i + k) 0)) := by
  have e : ((i : Int) + (k : Int)) = ((i + k : Nat) : Int) := by omega
  rw [e, ix_intsN h]
def fAt (ns : List Int) (i : Nat) : Fld := ⟨ns.getD i 0, ns.getD (i + 1) 0, (ns.getD (i + 2) 0, ns.getD (i + 3) 0)⟩
theorem field_at_eq {ns : List Int} {i : Nat} (h : i + 3 < ns.length) : field_at_D [eInts ns, .int (i : Int)] = some (eFld (fAt ns i)) := by
  unfold field_at_D
  have h0 := ix_intsN (ns := ns) (i := i) (by omega)
  have h1 : gIx (eInts ns) (.int ((i : Int) + 1)) = _ := ix_intsP (ns := ns) (i := i) (k := 1) (by omega)
  have h2 : gIx (eInts ns) (.int ((i : Int) + 2)) = _ := ix_intsP (ns := ns) (i := i) (k := 2) (by omega)
  have h3 : gIx (eInts ns) (.int ((i : Int) + 3)) = _ := ix_intsP (ns := ns) (i := i) (k := 3) (by omega)
  simp [g_field_at, h0, h1, h2, h3, fAt]
/-- a comprehension without tests, one name -/
theorem compD_map {α : Type} {mk : α → D} {h : α → D} {j : Nat} {fe : Sl → Option D} {sl : Sl} : ∀ {l : List α}, (∀ a ∈ l, fe (sl.set j (some (mk a))) = some (h a)) → compD (tgN j) fYes fe sl (l.map mk) = some (l.map h)
  | [], _ => rfl
  | a :: l, q => by
    have q1 := q a List.mem_cons_self
    have q2 := compD_map (l := l) (mk := mk) (h := h) (j := j) (fe := fe) (sl := sl) fun b hb => q b (List.mem_cons_of_mem _ hb)
    simp only [List.map_cons, compD, s_tgN, Option.bind_some, fYes, if_true, q1, q2, Option.map_some]
/-- .. a target of several names -/
theorem compD_mapG {α : Type} {mk : α → D} {h : α → D} {fg : D → Sl → Option Sl} {nx : α → Sl} {fe : Sl → Option D} {sl : Sl} : ∀ {l : List α}, (∀ a ∈ l, fg (mk a) sl = some (nx a)) → (∀ a ∈ l, fe (nx a) = some (h a)) → compD fg fYes fe sl (l.map mk) = some (l.map h)
  | [], _, _ => rfl
  | a :: l, q, r => by
    have q1 := q a List.mem_cons_self
    have r1 := r a List.mem_cons_self
    have q2 := compD_mapG (l := l) (mk := mk) (h := h) (fg := fg) (nx := nx) (fe := fe) (sl := sl) (fun b hb => q b (List.mem_cons_of_mem _ hb)) fun b hb => r b (List.mem_cons_of_mem _ hb)
    simp only [List.map_cons, compD, q1, Option.bind_some, fYes, if_true, r1, q2, Option.map_some]
def mListed (ns : List Int) : List Fld := (List.range (ns.length / 4)).map fun i => fAt ns (i * 4)
theorem len_ints (ns : List Int) : gLen [eInts ns] = some (.int ns.length) := by
  show some (D.int ((ns.map D.int).length : Nat)) = _
  rw [List.length_map]
theorem lf1 {ns : List Int} (h4 : ns.length % 4 = 0) (hl : ns.length ≤ 700) : iR3 (fCons (fC (.int 0)) (fCons (fB gLen (fCons (fVar 0) fNil)) (fCons (fC (.int 4)) fNil))) [some (eInts ns), none] = some ((List.range (ns.length / 4)).map fun i => D.int ((i : Nat) * 4)) := by
  have e : (fCons (fC (.int 0)) (fCons (fB gLen (fCons (fVar 0) fNil)) (fCons (fC (.int 4)) fNil))) [some (eInts ns), none] = some [.int 0, .int ns.length, .int 4] := by
    simp [len_ints]
  unfold iR3
  rw [e]
  show (if 0 ≤ (ns.length : Int) ∧ (ns.length : Int) < 1000 then some ((List.range (((ns.length : Int) + 3) / 4).toNat).map fun i => D.int ((i : Nat) * 4)) else none) = _
  rw [if_pos (by omega), show (((ns.length : Int) + 3) / 4).toNat = ns.length / 4 by omega]
theorem lf2 {ns : List Int} (h4 : ns.length % 4 = 0) (hl : ns.length ≤ 700) : compD (tgN 1) fYes (fCall 2 field_at_D (fCons (fVar 0) (fCons (fVar 1) fNil))) (wipeS [some (eInts ns), none] [1]) ((List.range (ns.length / 4)).map fun i => D.int ((i : Nat) * 4)) = some ((List.range (ns.length / 4)).map fun i => eFld (fAt ns (i * 4))) := by
  refine compD_map fun i hi => ?_
  have hi' := List.mem_range.mp hi
  have q : field_at_D [eInts ns, .int ((i : Int) * 4)] = _ := field_at_eq (ns := ns) (i := i * 4) (by omega)
  simp [wipeS]
  exact q
theorem lf3 {ns : List Int} (hl : ns.length ≤ 700) : (mListed ns).length ≤ line := by
  unfold mListed line
  rw [List.length_map, List.length_range]
  omega
theorem listed_fields_eq {ns : List Int} (h4 : ns.length % 4 = 0) (hl : ns.length ≤ 700) : listed_fields_D [eInts ns] = some (eFlds (mListed ns)) := by
  unfold listed_fields_D
  simp only [runD1, g_listed_fields, s_sRet, s_frz0, s_fB, s_fCons, s_fNil, Option.bind_some]
  unfold fLc
  rw [show List.replicate (2 - 1) (none : Option D) = [none] from rfl, lf1 h4 hl]
  simp only [Option.bind_some]
  rw [if_pos (by rw [List.length_map, List.length_range]; unfold line; omega), lf2 h4 hl]
  simp [gTuple, eFlds, mListed]
theorem bools_map {α : Type} (p : α → Bool) : ∀ l : List α, bools (l.map fun a => D.bl (p a)) = some (l.map p)
  | [] => rfl
  | a :: l => by
    simp only [List.map_cons, bools, bools_map p l, Option.map_some]
theorem all_map {α : Type} (p : α → Bool) (l : List α) : gAll [.lst (l.map fun a => D.bl (p a))] = some (.bl (l.all p)) := by
  unfold gAll
  simp [bools_map p l, List.all_map]
def mIsList (ns : List Int) : Bool := decide (ns.length % 4 = 0) && (mListed ns).all mIsField
theorem is_list_eq {ns : List Int} (hl : ns.length ≤ 700) : is_list_of_fields_D [eInts ns] = some (.bl (mIsList ns)) := by
  unfold is_list_of_fields_D mIsList
  by_cases h4 : ns.length % 4 = 0
  · have h4' : ((ns.length : Int) % 4) = 0 := by omega
    have hc : compD (tgN 1) fYes (fCall 1 is_field_D (fCons (fVar 1) fNil)) (wipeS [some (eInts ns), none] [1]) ((mListed ns).map eFld) = some ((mListed ns).map fun f => D.bl (mIsField f)) := by
      refine compD_map fun f hf => ?_
      simp [wipeS]
    have hlen := lf3 hl
    simp [g_is_list_of_fields, len_ints, h4', h4]
    unfold fLc iTp
    simp [listed_fields_eq h4 hl, eFlds, hlen, hc, all_map]
  · have h4' : ¬ ((ns.length : Int) % 4) = 0 := by omega
    simp [g_is_list_of_fields, len_ints, h4, h4']
def optI : Option Nat → Int
  | none => -1
  | some i => i
def findF {α : Type} (p : α → Bool) (k : Nat) : List α → Option Nat
  | [] => none
  | a :: l => if p a = true then some k else findF p (k + 1) l
theorem findF_none {α : Type} {p : α → Bool} : ∀ {k : Nat} {l : List α}, findF p k l = none ↔ ∀ a ∈ l, p a = false
  | _, [] => by simp [findF]
  | k, a :: l => by
    unfold findF
    by_cases h : p a = true
    · simp [h]
    · simp [h, findF_none (k := k + 1) (l := l)]
theorem findF_some {α : Type} {p : α → Bool} : ∀ {k i : Nat} {l : List α}, findF p k l = some i → ∃ a, k ≤ i ∧ l[i - k]? = some a ∧ p a = true ∧ ∀ j, j < i - k → ∀ b, l[j]? = some b → p b = false
  | _, _, [], h => by simp [findF] at h
  | k, i, a :: l, h => by
    unfold findF at h
    by_cases hp : p a = true
    · simp [hp] at h
      subst h
      exact ⟨a, Nat.le_refl _, by simp, hp, fun j hj => by omega⟩
    · simp [hp] at h
      obtain ⟨b, h1, h2, h3, h4⟩ := findF_some h
      refine ⟨b, by omega, ?_, h3, fun j hj c hc => ?_⟩
      · rw [show i - k = (i - (k + 1)) + 1 by omega]
        simpa using h2
      · cases j with
        | zero =>
          simp at hc
          subst hc
          simpa using hp
        | succ j => exact h4 j (by omega) c (by simpa using hc)
def mPlace (fs : List Fld) (name : Int) : Option Nat := findF (fun f => decide (f.name = name)) 0 fs
theorem numbered_cons (k : Nat) (d : D) (ds : List D) : numbered k (d :: ds) = .tup [.int (k : Nat), d] :: numbered (k + 1) ds := rfl
theorem forD_nil (is : List Nat) (fg : D → Sl → Option Sl) (g : SE → Option Out) (e : SE) : forD is fg g [] e = some (.nx e) := rfl
theorem forD_step (is : List Nat) (fg : D → Sl → Option Sl) (g : SE → Option Out) (x : D) (r : List D) (e : SE) : forD is fg g (x :: r) e = (fg x e.sl).bind fun sl' => if ownOff e is = true then (g ⟨sl', e.own⟩).bind fun o => match o with
    | .nx e' => forD is fg g r e'
    | .rt d => some (.rt d) else none := rfl
theorem field_place_loop (F : D) (n : Int) : ∀ (l : List Fld) (k : Nat) (x y : Option D),
    (∀ i, findF (fun f => decide (f.name = n)) k l = some i → forD [2, 3] (tgT [2, 3]) (sIf (fT (f2 gEq (f2 gIx (fVar 3) (fC (.int 0))) (fVar 1))) (sRet (fVar 2)) sNext) (numbered k (l.map eFld)) ⟨[some F, some (.int n), x, y], none⟩ = some (.rt (.int i))) ∧
    (findF (fun f => decide (f.name = n)) k l = none → ∃ x' y', forD [2, 3] (tgT [2, 3]) (sIf (fT (f2 gEq (f2 gIx (fVar 3) (fC (.int 0))) (fVar 1))) (sRet (fVar 2)) sNext) (numbered k (l.map eFld)) ⟨[some F, some (.int n), x, y], none⟩ = some (.nx ⟨[some F, some (.int n), x', y'], none⟩))
  | [], k, x, y => by
    refine ⟨fun i h => by simp [findF] at h, fun _ => ⟨x, y, rfl⟩⟩
  | f :: l, k, x, y => by
    have ih := field_place_loop F n l (k + 1) (some (.int k)) (some (eFld f))
    simp only [List.map_cons, numbered_cons, forD_step]
    by_cases h : f.name = n
    · simp [findF, h]
    · simp [findF, h] at ih ⊢
      exact ih
@[simp] theorem iEn_of (F : Sl → Option (List D)) (ds : List D) (sl : Sl) (h : F sl = some [.tup ds]) : iEn F sl = some (numbered 0 ds) := by
  unfold iEn
  rw [h]
  rfl
@[simp] theorem field_place_eq (fs : List Fld) (n : Int) : field_place_D [eFlds fs, .int n] = some (.int (optI (mPlace fs n))) := by
  unfold field_place_D mPlace
  have ih := field_place_loop (eFlds fs) n fs 0 none none
  simp only [runD2, g_field_place, s_sSeq]
  unfold sFor
  rw [show List.replicate (4 - 2) (none : Option D) = [none, none] from rfl]
  simp only [iEn_of (fCons (fVar 0) fNil) (fs.map eFld) [some (eFlds fs), some (.int n), none, none] rfl, Option.bind_some]
  cases c : findF (fun f => decide (f.name = n)) 0 fs with
  | some i =>
    rw [ih.1 i c]
    simp [optI]
  | none =>
    obtain ⟨x', y', e⟩ := ih.2 c
    rw [e]
    simp [optI]
def mTwiceF (all : List Fld) (k : Nat) : List Fld → Bool
  | [] => false
  | f :: r => decide (optI (mPlace all f.name) < (k : Int)) || mTwiceF all (k + 1) r
def mTwice (fs : List Fld) : Bool := mTwiceF fs 0 fs
theorem twice_loop (fs : List Fld) : ∀ (l : List Fld) (k : Nat) (x y : Option D),
    (mTwiceF fs k l = true → forD [1, 2] (tgT [1, 2]) (sIf (fT (f2 gLt (fCall 2 field_place_D (fCons (fVar 0) (fCons (f2 gIx (fVar 2) (fC (.int 0))) fNil))) (fVar 1))) (sRet (fC (.bl true))) sNext) (numbered k (l.map eFld)) ⟨[some (eFlds fs), x, y], none⟩ = some (.rt (.bl true))) ∧
    (mTwiceF fs k l = false → ∃ x' y', forD [1, 2] (tgT [1, 2]) (sIf (fT (f2 gLt (fCall 2 field_place_D (fCons (fVar 0) (fCons (f2 gIx (fVar 2) (fC (.int 0))) fNil))) (fVar 1))) (sRet (fC (.bl true))) sNext) (numbered k (l.map eFld)) ⟨[some (eFlds fs), x, y], none⟩ = some (.nx ⟨[some (eFlds fs), x', y'], none⟩))
  | [], k, x, y => by
    refine ⟨fun h => by simp [mTwiceF] at h, fun _ => ⟨x, y, rfl⟩⟩
  | f :: l, k, x, y => by
    have ih := twice_loop fs l (k + 1) (some (.int k)) (some (eFld f))
    simp only [List.map_cons, numbered_cons, forD_step]
    by_cases h : optI (mPlace fs f.name) < (k : Int)
    · simp [mTwiceF, h]
    · simp [mTwiceF, h] at ih ⊢
      exact ih
@[simp] theorem twice_eq (fs : List Fld) : has_name_twice_D [eFlds fs] = some (.bl (mTwice fs)) := by
  unfold has_name_twice_D mTwice
  have ih := twice_loop fs fs 0 none none
  simp only [runD1, g_has_name_twice, s_sSeq]
  unfold sFor
  rw [show List.replicate (3 - 1) (none : Option D) = [none, none] from rfl]
  simp only [iEn_of (fCons (fVar 0) fNil) (fs.map eFld) [some (eFlds fs), none, none] rfl, Option.bind_some]
  cases c : mTwiceF fs 0 fs with
  | true =>
    rw [ih.1 c]
    simp
  | false =>
    obtain ⟨x', y', e⟩ := ih.2 c
    rw [e]
    simp
end Sb
end
section
set_option Elab.async false
set_option linter.all false
set_option maxRecDepth 100000
set_option maxHeartbeats 4000000
namespace Sb
open L2 (atI ixN)
/-! ### lists of encoded things -/
theorem cut_take {α : Type} (l : List α) (i : Nat) : cutG l none (some (i : Int)) = l.take i := by
  unfold cutG
  rw [HT.sIx_nat, HT.sIx_none]
  by_cases h : i ≤ l.length
  · rw [Nat.min_eq_left h]
    simp
  · rw [Nat.min_eq_right (by omega)]
    simp
    exact (List.take_of_length_le (by omega)).symm
theorem cut_drop {α : Type} (l : List α) (i : Nat) : cutG l (some (i : Int)) none = l.drop i := by
  unfold cutG
  rw [HT.sIx_nat, HT.sIx_none]
  by_cases h : i ≤ l.length
  · rw [Nat.min_eq_left h]
    exact List.take_of_length_le (by rw [List.length_drop]; omega)
  · rw [Nat.min_eq_right (by omega)]
    simp
    omega
theorem cut_mid {α : Type} (l : List α) (i j : Nat) (h : i ≤ j) (hj : j ≤ l.length) : cutG l (some (i : Int)) (some (j : Int)) = (l.drop i).take (j - i) := by
  unfold cutG
  rw [HT.sIx_nat, HT.sIx_nat, Nat.min_eq_left hj, Nat.min_eq_left (by omega)]
section
variable {α : Type} (e : α → D)
theorem ix_map (l : List α) (i : Nat) : gIx (.tup (l.map e)) (.int (i : Int)) = (l[i]?).map e := by
  show atI (l.map e) (i : Int) = _
  rw [atI_n, List.getElem?_map]
theorem sl_take (l : List α) (i : Nat) : gSl (.tup (l.map e)) none (some (i : Int)) = some (.tup ((l.take i).map e)) := by
  show some (D.tup (cutG (l.map e) none (some (i : Int)))) = _
  rw [cut_take, List.map_take]
theorem sl_drop (l : List α) (i : Nat) : gSl (.tup (l.map e)) (some (i : Int)) none = some (.tup ((l.drop i).map e)) := by
  show some (D.tup (cutG (l.map e) (some (i : Int)) none)) = _
  rw [cut_drop, List.map_drop]
theorem add_map {l m : List α} (h : l.length + m.length ≤ line) : gAdd (.tup (l.map e)) (.tup (m.map e)) = some (.tup ((l ++ m).map e)) := by
  unfold gAdd
  simp only [List.length_map]
  rw [if_pos h, List.map_append]
/-- [:i] + (x,) + [i + 1:] -/
theorem splice {l : List α} {i : Nat} (x : α) (hi : i < l.length) (hl : l.length ≤ 1000) : ((gSl (.tup (l.map e)) none (some (i : Int))).bind fun a => (gAdd a (.tup [e x])).bind fun b => (gSl (.tup (l.map e)) (some ((i : Int) + 1)) none).bind fun c => gAdd b c) = some (.tup ((l.set i x).map e)) := by
  have h1 : (gSl (.tup (l.map e)) (some ((i : Int) + 1)) none) = some (.tup ((l.drop (i + 1)).map e)) := sl_drop e l (i + 1)
  rw [sl_take, h1]
  simp only [Option.bind_some]
  rw [show [e x] = ([x] : List α).map e from rfl, add_map e (by simp [line]; omega)]
  simp only [Option.bind_some]
  rw [add_map e (by simp [line]; omega)]
  rw [List.set_eq_take_append_cons_drop, if_pos hi]
  simp
/-- [:i] + [i + 1:] -/
theorem splice0 {l : List α} {i : Nat} (hi : i < l.length) (hl : l.length ≤ 1000) : ((gSl (.tup (l.map e)) none (some (i : Int))).bind fun a => (gSl (.tup (l.map e)) (some ((i : Int) + 1)) none).bind fun c => gAdd a c) = some (.tup ((l.eraseIdx i).map e)) := by
  have h1 : (gSl (.tup (l.map e)) (some ((i : Int) + 1)) none) = some (.tup ((l.drop (i + 1)).map e)) := sl_drop e l (i + 1)
  rw [sl_take, h1]
  simp only [Option.bind_some]
  rw [add_map e (by simp [line]; omega), List.eraseIdx_eq_take_drop_succ]
end
@[simp] theorem ix_slts (l : List Slt) (i : Nat) : gIx (eSlts l) (.int (i : Int)) = (l[i]?).map eSlt := ix_map eSlt l i
@[simp] theorem ix_flds (l : List Fld) (i : Nat) : gIx (eFlds l) (.int (i : Int)) = (l[i]?).map eFld := ix_map eFld l i
@[simp] theorem ix_siss (l : List Sis) (i : Nat) : gIx (eSiss l) (.int (i : Int)) = (l[i]?).map eSis := ix_map eSis l i
@[simp] theorem ix_thgs (l : List Thg) (i : Nat) : gIx (eThgs l) (.int (i : Int)) = (l[i]?).map eThg := ix_map eThg l i
theorem len_map {α : Type} (e : α → D) (l : List α) : gLen [.tup (l.map e)] = some (.int l.length) := by
  show some (D.int ((l.map e).length : Nat)) = _
  rw [List.length_map]
@[simp] theorem len_slts (l : List Slt) : gLen [eSlts l] = some (.int l.length) := len_map eSlt l
@[simp] theorem len_flds (l : List Fld) : gLen [eFlds l] = some (.int l.length) := len_map eFld l
@[simp] theorem len_siss (l : List Sis) : gLen [eSiss l] = some (.int l.length) := len_map eSis l
@[simp] theorem len_thgs (l : List Thg) : gLen [eThgs l] = some (.int l.length) := len_map eThg l
@[simp] theorem b_slts (x : Slt) : D.tup [eSlt x] = eSlts [x] := id rfl
@[simp] theorem b_flds (x : Fld) : D.tup [eFld x] = eFlds [x] := id rfl
@[simp] theorem b_siss (x : Sis) : D.tup [eSis x] = eSiss [x] := id rfl
@[simp] theorem b_thgs (x : Thg) : D.tup [eThg x] = eThgs [x] := id rfl
@[simp] theorem b_bare (p : Int) : D.tup [.int p, .tup []] = eShp ⟨p, []⟩ := id rfl
theorem add_slts {a b : List Slt} (h : a.length + b.length ≤ line) : gAdd (eSlts a) (eSlts b) = some (eSlts (a ++ b)) := add_map eSlt h
theorem add_flds {a b : List Fld} (h : a.length + b.length ≤ line) : gAdd (eFlds a) (eFlds b) = some (eFlds (a ++ b)) := add_map eFld h
theorem add_siss {a b : List Sis} (h : a.length + b.length ≤ line) : gAdd (eSiss a) (eSiss b) = some (eSiss (a ++ b)) := add_map eSis h
theorem add_thgs {a b : List Thg} (h : a.length + b.length ≤ line) : gAdd (eThgs a) (eThgs b) = some (eThgs (a ++ b)) := add_map eThg h
theorem add_ints {a b : List Int} (h : a.length + b.length ≤ line) : gAdd (eInts a) (eInts b) = some (eInts (a ++ b)) := by
  show (if (a.map D.int).length + (b.map D.int).length ≤ line then some (D.lst (a.map D.int ++ b.map D.int)) else none) = _
  rw [List.length_map, List.length_map, if_pos h, ← List.map_append]
  rfl

/-! ### fields, shapes -/
def tFld (f : Fld) : List Int := [f.name, f.rd, f.val.1, f.val.2]
@[simp] theorem told_field_eq (f : Fld) : told_field_D [eFld f] = some (eInts (tFld f)) := by
  unfold told_field_D
  simp [g_told_field, eInts, tFld]
@[simp] theorem bare_shape_eq (p : Int) : bare_shape_D [.int p] = some (eShp ⟨p, []⟩) := by
  unfold bare_shape_D
  simp [g_bare_shape]
def mConst (fs : List Fld) : List Slt := fs.map fun f => ⟨f.name, f.rd, .cst f.val⟩
theorem constant_shape_eq (p : Int) (fs : List Fld) (h : fs.length ≤ 1000) : constant_shape_D [.int p, eFlds fs] = some (eShp ⟨p, mConst fs⟩) := by
  unfold constant_shape_D
  have hc : fLc (iTp (fVar 1)) (tgT [3, 4, 5]) fYes (fTup (fCons (fVar 3) (fCons (fVar 4) (fCons (fCall 1 constant_D (fCons (fVar 5) fNil)) fNil)))) [3, 4, 5] [some (.int p), some (eFlds fs), none, none, none, none] = some (.lst (fs.map fun f => eSlt ⟨f.name, f.rd, .cst f.val⟩)) := by
    unfold fLc iTp
    simp only [s_fVar, List.getElem?_cons_succ, List.getElem?_cons_zero, Option.join_some, Option.bind_some]
    show (if (fs.map eFld).length ≤ line then _ else _) = _
    rw [if_pos (by rw [List.length_map]; unfold line; omega)]
    rw [compD_mapG (nx := fun f => [some (.int p), some (eFlds fs), none, some (.int f.name), some (.int f.rd), some (eVal f.val)]) (h := fun f => eSlt ⟨f.name, f.rd, .cst f.val⟩)]
    · rfl
    · intro f hf
      simp [wipeS]
    · intro f hf
      simp
  simp [g_constant_shape]
  rw [hc]
  simp [gTuple]
  simp [eShp, eSlts, mConst]
theorem with_slot_eq (s : Shp) (x : Slt) (h : s.slots.length ≤ 1000) : with_slot_D [eShp s, eSlt x] = some (eShp ⟨s.proto, s.slots ++ [x]⟩) := by
  unfold with_slot_D
  simp [g_with_slot]
  rw [add_slts (by simp [line]; omega)]
  simp
theorem with_other_slot_eq (s : Shp) (i : Nat) (x : Slt) (hi : i < s.slots.length) (h : s.slots.length ≤ 1000) : with_other_slot_D [eShp s, .int (i : Int), eSlt x] = some (eShp ⟨s.proto, s.slots.set i x⟩) := by
  unfold with_other_slot_D
  have q := splice eSlt x hi h
  have q' : ((gSl (eSlts s.slots) none (some (i : Int))).bind fun a => (gAdd a (eSlts [x])).bind fun b => (gSl (eSlts s.slots) (some ((i : Int) + 1)) none).bind fun c => gAdd b c) = some (eSlts (s.slots.set i x)) := q
  simp [g_with_other_slot]
  cases c1 : gSl (eSlts s.slots) none (some (i : Int)) with
  | none => rw [c1] at q'; cases q'
  | some a =>
    rw [c1] at q'
    simp only [Option.bind_some] at q' ⊢
    cases c2 : gAdd a (eSlts [x]) with
    | none => rw [c2] at q'; cases q'
    | some b =>
      rw [c2] at q'
      simp only [Option.bind_some] at q' ⊢
      cases c3 : gSl (eSlts s.slots) (some ((i : Int) + 1)) none with
      | none => rw [c3] at q'; cases q'
      | some c =>
        rw [c3] at q'
        simp only [Option.bind_some] at q' ⊢
        rw [q']
        simp
theorem up_to_eq (s : Shp) (i : Nat) : up_to_D [eShp s, .int (i : Int)] = some (eShp ⟨s.proto, s.slots.take i⟩) := by
  unfold up_to_D
  have q : gSl (eSlts s.slots) none (some (i : Int)) = some (eSlts (s.slots.take i)) := sl_take eSlt s.slots i
  simp [g_up_to, q]
@[simp] theorem with_prototype_eq (s : Shp) (p : Int) : with_prototype_D [eShp s, .int p] = some (eShp ⟨p, s.slots⟩) := by
  unfold with_prototype_D
  simp [g_with_prototype]
def mHasValues (sl : List Slt) (fs : List Fld) : Bool := (sl.zip fs).all fun x => mHas x.1.kind x.2.val
theorem paired_map : ∀ (sl : List Slt) (fs : List Fld), paired (sl.map eSlt) (fs.map eFld) = (sl.zip fs).map fun x => .tup [eSlt x.1, eFld x.2]
  | [], _ => by simp [paired]
  | _ :: _, [] => by simp [paired]
  | s :: sl, f :: fs => by simp [paired, paired_map sl fs]
theorem has_values_eq (s : Shp) (fs : List Fld) (hk : ∀ x ∈ s.slots, KOk x.kind) (h : s.slots.length ≤ 1000) : has_values_D [eShp s, eFlds fs] = some (.bl (mHasValues s.slots fs)) := by
  unfold has_values_D
  have hc : fLc (iZp (fCons (f2 gIx (fVar 0) (fC (.int 1))) (fCons (fVar 1) fNil))) (tgT [2, 3]) fYes (fCall 2 has_D (fCons (f2 gIx (fVar 2) (fC (.int 2))) (fCons (f2 gIx (fVar 3) (fC (.int 2))) fNil))) [2, 3] [some (eShp s), some (eFlds fs), none, none] = some (.lst ((s.slots.zip fs).map fun x => .bl (mHas x.1.kind x.2.val))) := by
    unfold fLc iZp
    simp only [s_fCons, s_f2, s_fC, s_fNil, s_fVar, List.getElem?_cons_succ, List.getElem?_cons_zero, Option.join_some, Option.bind_some, ix_shp1]
    show (if (paired (s.slots.map eSlt) (fs.map eFld)).length ≤ line then _ else _) = _
    rw [if_pos (by rw [paired_length]; simp [line]; omega)]
    show (compD _ _ _ _ (paired (s.slots.map eSlt) (fs.map eFld))).map D.lst = _
    rw [paired_map]
    rw [compD_mapG (nx := fun x => [some (eShp s), some (eFlds fs), some (eSlt x.1), some (eFld x.2)]) (h := fun x => D.bl (mHas x.1.kind x.2.val))]
    · rfl
    · intro x hx
      simp [wipeS]
    · intro x hx
      have hm : x.1 ∈ s.slots := (List.of_mem_zip (a := x.1) (b := x.2) hx).1
      simp [has_eq _ _ (hk _ hm)]
  simp [g_has_values]
  rw [hc]
  simp [all_map, mHasValues]
def tKd : Kd → List Int
  | .cst v => [0, v.1, v.2]
  | .knd n => [n]
def tSlt (s : Slt) : List Int := s.name :: s.rd :: tKd s.kind
def tShp (s : Shp) : List Int := s.proto :: (s.slots.length : Int) :: s.slots.flatMap tSlt
def tLay : Option Shp → List Int
  | none => [0]
  | some s => 1 :: tShp s
theorem tKd_len (k : Kd) : (tKd k).length ≤ 3 := by cases k <;> simp [tKd]
theorem eKd_tup (k : Kd) : eKd k = .tup ((tKd k).map D.int) := by cases k <;> rfl
theorem told_shape_loop (S P T : D) : ∀ (l : List Slt) (acc : List Int) (x y z : Option D), acc.length + 5 * l.length ≤ 1000 →
    ∃ x' y' z', forD [4, 5, 6] (tgT [4, 5, 6]) (sSeq (sApp 3 (fVar 4)) (sSeq (sApp 3 (fVar 5)) (sExtT 3 (fVar 6)))) (l.map eSlt) ⟨[some S, some P, some T, none, x, y, z], some (3, acc.map D.int)⟩ = some (.nx ⟨[some S, some P, some T, none, x', y', z'], some (3, (acc ++ l.flatMap tSlt).map D.int)⟩)
  | [], acc, x, y, z, h => ⟨x, y, z, by simp [forD_nil]⟩
  | s :: l, acc, x, y, z, h => by
    have hk := tKd_len s.kind
    simp only [List.length_cons] at h
    obtain ⟨x', y', z', ih⟩ := told_shape_loop S P T l (acc ++ tSlt s) (some (.int s.name)) (some (.int s.rd)) (some (eKd s.kind)) (by simp [tSlt]; omega)
    refine ⟨x', y', z', ?_⟩
    have e1 : sApp 3 (fVar 4) ⟨[some S, some P, some T, none, some (.int s.name), some (.int s.rd), some (eKd s.kind)], some (3, acc.map D.int)⟩ = some (.nx ⟨[some S, some P, some T, none, some (.int s.name), some (.int s.rd), some (eKd s.kind)], some (3, (acc ++ [s.name]).map D.int)⟩) := by
      rw [s_sApp, if_pos ⟨rfl, by rw [List.length_map]; unfold line; omega⟩]
      simp
    have e2 : sApp 3 (fVar 5) ⟨[some S, some P, some T, none, some (.int s.name), some (.int s.rd), some (eKd s.kind)], some (3, (acc ++ [s.name]).map D.int)⟩ = some (.nx ⟨[some S, some P, some T, none, some (.int s.name), some (.int s.rd), some (eKd s.kind)], some (3, (acc ++ [s.name] ++ [s.rd]).map D.int)⟩) := by
      rw [s_sApp, if_pos ⟨rfl, by rw [List.length_map, List.length_append]; simp [line]; omega⟩]
      simp
    have e3 : sExtT 3 (fVar 6) ⟨[some S, some P, some T, none, some (.int s.name), some (.int s.rd), some (eKd s.kind)], some (3, (acc ++ [s.name] ++ [s.rd]).map D.int)⟩ = some (.nx ⟨[some S, some P, some T, none, some (.int s.name), some (.int s.rd), some (eKd s.kind)], some (3, (acc ++ tSlt s).map D.int)⟩) := by
      unfold sExtT
      simp only [s_fVar, List.getElem?_cons_succ, List.getElem?_cons_zero, Option.join_some, Option.bind_some]
      rw [eKd_tup]
      simp only
      rw [if_pos ⟨trivial, by simp [line]; omega⟩]
      simp [tSlt]
    rw [List.map_cons, forD_step]
    simp only [tg_slt, List.set_cons_succ, List.set_cons_zero, Option.bind_some, s_own1, s_sSeq, e1, e2, e3]
    rw [if_pos (by decide)]
    simp only [Option.bind_some, ih, List.flatMap_cons, List.append_assoc]
theorem told_shape_eq (s : Shp) (h : s.slots.length ≤ 100) : told_shape_D [eShp s] = some (eInts (tShp s)) := by
  unfold told_shape_D
  obtain ⟨x, y, z, e⟩ := told_shape_loop (eShp s) (.int s.proto) (eSlts s.slots) s.slots [s.proto, (s.slots.length : Int)] none none none (by simp; omega)
  simp [g_told_shape]
  unfold sFor iTp
  simp
  show (outD ((match ((forD [4, 5, 6] (tgT [4, 5, 6]) (sSeq (sApp 3 (fVar 4)) (sSeq (sApp 3 (fVar 5)) (sExtT 3 (fVar 6)))) (s.slots.map eSlt) ⟨[some (eShp s), some (.int s.proto), some (eSlts s.slots), none, none, none, none], some (3, ([s.proto, (s.slots.length : Int)]).map D.int)⟩)) with | x => x).bind _)) = _
  simp only [e, Option.bind_some]
  simp [eInts, tShp]
theorem tSlts_len : ∀ l : List Slt, (l.flatMap tSlt).length ≤ 5 * l.length
  | [] => by simp
  | a :: l => by
    have h := tSlts_len l
    have := tKd_len a.kind
    rw [List.flatMap_cons, List.length_append]
    simp only [tSlt, List.length_cons]
    omega
theorem tShp_len (s : Shp) : (tShp s).length ≤ 2 + 5 * s.slots.length := by
  have := tSlts_len s.slots
  unfold tShp
  simp only [List.length_cons]
  omega
theorem told_layout_eq (l : Option Shp) (h : ∀ s, l = some s → s.slots.length ≤ 100) : told_layout_D [eLay l] = some (eInts (tLay l)) := by
  unfold told_layout_D
  cases l with
  | none =>
    simp [g_told_layout, eInts, tLay]
  | some s =>
    have hs := h s rfl
    have hl := tShp_len s
    have q : gAdd (.lst [.int 1]) (eInts (tShp s)) = some (eInts ([1] ++ tShp s)) := add_ints (a := [1]) (by simp only [List.length_cons, List.length_nil]; unfold line; omega)
    simp [g_told_layout, told_shape_eq s hs, q, tLay]
end Sb
end
section
set_option Elab.async false
set_option linter.all false
set_option maxRecDepth 100000
set_option maxHeartbeats 4000000
namespace Sb
open L2 (atI ixN)
/-! ### how many shapes -/
def mSeen (seen : List Shp) : List (Option Shp) → List Shp
  | [] => seen
  | none :: l => mSeen seen l
  | some s :: l => mSeen (if s ∈ seen then seen else seen ++ [s]) l
theorem notIn_seen (s : Shp) (seen : List Shp) : gNotIn (eShp s) (.lst (seen.map eShp)) = some (.bl (!decide (s ∈ seen))) := by
  unfold gNotIn
  have h1 : okD 60 (eShp s) = true := ok_shp s
  have h2 : okL 60 (seen.map eShp) = true := okL_map (fun a => ok_shp a) seen
  simp only [h1, h2, Bool.and_self, if_true, Option.some.injEq, D.bl.injEq]
  rw [List.any_map]
  congr 1
  rw [Bool.eq_iff_iff]
  simp only [List.any_eq_true, Function.comp_apply, decide_eq_true_eq]
  constructor
  · rintro ⟨x, hx, e⟩
    have q := (eqD_dec (ok_shp (n := 56) x) (ok_shp (n := 56) s)).mp e
    rw [← eShp_inj.mp q]
    exact hx
  · intro h
    exact ⟨s, h, (eqD_dec (ok_shp (n := 56) s) (ok_shp (n := 56) s)).mpr rfl⟩
abbrev gSeen : SE → Option Out := sIf (fAnd (fT (f2 gIsNot (fVar 2) (fC .non))) (fT (f2 gNotIn (fVar 2) (fVar 1)))) (sApp 1 (fVar 2)) sNext
theorem seen_loop (L : D) : ∀ (l : List (Option Shp)) (seen : List Shp) (x : Option D), seen.length + l.length ≤ 1000 →
    ∃ x', forD [2] (tgN 2) gSeen (l.map eLay) ⟨[some L, none, x], some (1, seen.map eShp)⟩ = some (.nx ⟨[some L, none, x'], some (1, (mSeen seen l).map eShp)⟩)
  | [], seen, x, h => ⟨x, by simp [forD_nil, mSeen]⟩
  | none :: l, seen, x, h => by
    simp only [List.length_cons] at h
    obtain ⟨x', ih⟩ := seen_loop L l seen (some .non) (by omega)
    refine ⟨x', ?_⟩
    rw [List.map_cons, forD_step]
    simp [gIsNot, isNonD, mSeen]
    exact ih
  | some s :: l, seen, x, h => by
    simp only [List.length_cons] at h
    rw [List.map_cons, forD_step]
    by_cases hs : s ∈ seen
    · obtain ⟨x', ih⟩ := seen_loop L l seen (some (eShp s)) (by omega)
      refine ⟨x', ?_⟩
      have e1 : gIsNot (eShp s) .non = some (.bl true) := rfl
      simp [e1, mSeen, notIn_seen, hs]
      exact ih
    · obtain ⟨x', ih⟩ := seen_loop L l (seen ++ [s]) (some (eShp s)) (by simp; omega)
      refine ⟨x', ?_⟩
      have e1 : gIsNot (eShp s) .non = some (.bl true) := rfl
      have hl : seen.length < line := by unfold line; omega
      simp [e1, mSeen, notIn_seen, hs, hl]
      simpa using ih
theorem how_many_eq (l : List (Option Shp)) (h : l.length ≤ 900) : how_many_shapes_D [.lst (l.map eLay)] = some (.int (mSeen [] l).length) := by
  unfold how_many_shapes_D
  obtain ⟨x, e⟩ := seen_loop (.lst (l.map eLay)) l [] none (by simp; omega)
  simp [g_how_many_shapes]
  unfold sFor iLst
  have e' : forD [2] (tgN 2) gSeen (l.map eLay) ⟨[some (.lst (l.map eLay)), none, none], some (1, [])⟩ = _ := e
  simp [e', gLen]

/-! ### sisters -/
def mSisPlace (ss : List Sis) (s : Shp) (name rd : Int) : Option Nat := findF (fun x => decide (x.shape = s) && (decide (x.name = name) && decide (x.rd = rd))) 0 ss
abbrev gSisBody : SE → Option Out := sIf (fAnd (fT (f2 gEq (f2 gIx (fVar 5) (fC (.int 0))) (fVar 1))) (fAnd (fT (f2 gEq (f2 gIx (fVar 5) (fC (.int 1))) (fVar 2))) (fT (f2 gEq (f2 gIx (fVar 5) (fC (.int 2))) (fVar 3))))) (sRet (fVar 4)) sNext
theorem sister_place_loop (F : D) (s : Shp) (n r : Int) : ∀ (l : List Sis) (k : Nat) (x y : Option D),
    (∀ i, findF (fun x => decide (x.shape = s) && (decide (x.name = n) && decide (x.rd = r))) k l = some i → forD [4, 5] (tgT [4, 5]) gSisBody (numbered k (l.map eSis)) ⟨[some F, some (eShp s), some (.int n), some (.int r), x, y], none⟩ = some (.rt (.int i))) ∧
    (findF (fun x => decide (x.shape = s) && (decide (x.name = n) && decide (x.rd = r))) k l = none → ∃ x' y', forD [4, 5] (tgT [4, 5]) gSisBody (numbered k (l.map eSis)) ⟨[some F, some (eShp s), some (.int n), some (.int r), x, y], none⟩ = some (.nx ⟨[some F, some (eShp s), some (.int n), some (.int r), x', y'], none⟩))
  | [], k, x, y => by
    refine ⟨fun i h => by simp [findF] at h, fun _ => ⟨x, y, rfl⟩⟩
  | f :: l, k, x, y => by
    have ih := sister_place_loop F s n r l (k + 1) (some (.int k)) (some (eSis f))
    simp only [List.map_cons, numbered_cons, forD_step]
    by_cases h1 : f.shape = s
    · by_cases h2 : f.name = n
      · by_cases h3 : f.rd = r
        · simp [findF, h1, h2, h3]
        · simp [findF, h1, h2, h3] at ih ⊢
          exact ih
      · simp [findF, h1, h2] at ih ⊢
        exact ih
    · simp [findF, h1] at ih ⊢
      exact ih
theorem sister_place_eq (ss : List Sis) (s : Shp) (n r : Int) : sister_place_D [eSiss ss, eShp s, .int n, .int r] = some (.int (optI (mSisPlace ss s n r))) := by
  unfold sister_place_D mSisPlace
  have ih := sister_place_loop (eSiss ss) s n r ss 0 none none
  simp only [runD4, g_sister_place, s_sSeq]
  unfold sFor
  rw [show List.replicate (6 - 4) (none : Option D) = [none, none] from rfl]
  simp only [iEn_of (fCons (fVar 0) fNil) (ss.map eSis) [some (eSiss ss), some (eShp s), some (.int n), some (.int r), none, none] rfl, Option.bind_some]
  cases c : findF (fun x => decide (x.shape = s) && (decide (x.name = n) && decide (x.rd = r))) 0 ss with
  | some i =>
    rw [ih.1 i c]
    simp [optI]
  | none =>
    obtain ⟨x', y', e⟩ := ih.2 c
    rw [e]
    simp [optI]
def mRisen (ss : List Sis) (i : Nat) (v : Val) : List Sis := match ss[i]? with
  | some s => ss.set i ⟨s.shape, s.name, s.rd, mJoined s.kind v⟩
  | none => ss
theorem splice_of {α : Type} (e : α → D) {l : List α} {i : Nat} (x : α) (hi : i < l.length) (hl : l.length ≤ 1000) {E : List α → D} (hE : ∀ l, E l = .tup (l.map e)) :
    ∃ a b c, gSl (E l) none (some (i : Int)) = some a ∧ gAdd a (E [x]) = some b ∧ gSl (E l) (some ((i : Int) + 1)) none = some c ∧ gAdd b c = some (E (l.set i x)) := by
  have h1 : (gSl (.tup (l.map e)) (some ((i : Int) + 1)) none) = some (.tup ((l.drop (i + 1)).map e)) := sl_drop e l (i + 1)
  refine ⟨_, _, _, by rw [hE]; exact sl_take e l i, by rw [hE]; exact add_map e (m := [x]) (by simp [line]; omega), by rw [hE]; exact h1, ?_⟩
  rw [hE, add_map e (by simp [line]; omega), List.set_eq_take_append_cons_drop, if_pos hi]
  simp
theorem splice0_of {α : Type} (e : α → D) {l : List α} {i : Nat} (hi : i < l.length) (hl : l.length ≤ 1000) {E : List α → D} (hE : ∀ l, E l = .tup (l.map e)) :
    ∃ a c, gSl (E l) none (some (i : Int)) = some a ∧ gSl (E l) (some ((i : Int) + 1)) none = some c ∧ gAdd a c = some (E (l.eraseIdx i)) := by
  have h1 : (gSl (.tup (l.map e)) (some ((i : Int) + 1)) none) = some (.tup ((l.drop (i + 1)).map e)) := sl_drop e l (i + 1)
  refine ⟨_, _, by rw [hE]; exact sl_take e l i, by rw [hE]; exact h1, ?_⟩
  rw [hE, add_map e (by simp [line]; omega), List.eraseIdx_eq_take_drop_succ]
theorem with_risen_eq (ss : List Sis) (i : Nat) (v : Val) (hi : i < ss.length) (hl : ss.length ≤ 1000) (hk : ∀ s ∈ ss, KOk s.kind) : with_risen_D [eSiss ss, .int (i : Int), eVal v] = some (eSiss (mRisen ss i v)) := by
  unfold with_risen_D mRisen
  have h0 : ss[i]? = some ss[i] := by simp [hi]
  obtain ⟨a, b, c, q1, q2, q3, q4⟩ := splice_of eSis (l := ss) (i := i) ⟨ss[i].shape, ss[i].name, ss[i].rd, mJoined ss[i].kind v⟩ hi hl (E := eSiss) (fun _ => rfl)
  have hj := joined_eq ss[i].kind v (hk _ (List.getElem_mem hi))
  rw [h0]
  simp [g_with_risen, hi, hj, q1, q2, q3, q4]
def eP (x : List Sis × Option Shp) : D := .tup [eSiss x.1, eLay x.2]
@[simp] theorem b_p0 (ss : List Sis) : D.tup [eSiss ss, .non] = eP (ss, none) := id rfl
@[simp] theorem b_p1 (ss : List Sis) (s : Shp) : D.tup [eSiss ss, eShp s] = eP (ss, some s) := id rfl
@[simp] theorem b_p2 (ss : List Sis) (s : Option Shp) : D.tup [eSiss ss, eLay s] = eP (ss, s) := id rfl
@[simp] theorem tg_p (i j : Nat) (x : List Sis × Option Shp) (sl : Sl) : tgT [i, j] (eP x) sl = some ((sl.set i (some (eSiss x.1))).set j (some (eLay x.2))) := id rfl
def mAdded (ss : List Sis) (lay : Option Shp) (f : Fld) : List Sis × Option Shp := match lay with
  | none => (ss, none)
  | some s => match mSisPlace ss s f.name f.rd with
    | some i => (mRisen ss i f.val, some ⟨s.proto, s.slots ++ [⟨f.name, f.rd, (((mRisen ss i f.val)[i]?).map Sis.kind).getD (.cst f.val)⟩]⟩)
    | none => if 60 ≤ ss.length then (ss, none) else (ss ++ [⟨s, f.name, f.rd, .cst f.val⟩], some ⟨s.proto, s.slots ++ [⟨f.name, f.rd, .cst f.val⟩]⟩)
theorem sisPlace_lt {ss : List Sis} {s : Shp} {n r : Int} {i : Nat} (h : mSisPlace ss s n r = some i) : i < ss.length := by
  obtain ⟨a, h1, h2, _⟩ := findF_some h
  have := (List.getElem?_eq_some_iff.mp h2).1
  omega
theorem layout_added_eq (ss : List Sis) (lay : Option Shp) (f : Fld) (hl : ss.length ≤ 1000) (hk : ∀ s ∈ ss, KOk s.kind) (hs : ∀ s, lay = some s → s.slots.length ≤ 1000) : layout_added_D [eSiss ss, eLay lay, eFld f] = some (eP (mAdded ss lay f)) := by
  unfold layout_added_D
  cases lay with
  | none => simp [g_layout_added, mAdded]
  | some s =>
    cases c : mSisPlace ss s f.name f.rd with
    | some i =>
      have hi := sisPlace_lt c
      have hr := with_risen_eq ss i f.val hi hl hk
      have hlen : i < (mRisen ss i f.val).length := by
        unfold mRisen
        split
        · rw [List.length_set]; exact hi
        · exact hi
      have h0 : (mRisen ss i f.val)[i]? = some (mRisen ss i f.val)[i] := by simp [hlen]
      have hw := with_slot_eq s ⟨f.name, f.rd, ((mRisen ss i f.val)[i]).kind⟩ (hs s rfl)
      simp [g_layout_added, mAdded, sister_place_eq, c, optI, hr, h0, hw]
    | none =>
      by_cases h60 : 60 ≤ ss.length
      · have h60' : (60 : Int) ≤ (ss.length : Int) := by omega
        simp [g_layout_added, mAdded, sister_place_eq, c, optI, h60, h60']
      · have h60' : ¬ (60 : Int) ≤ (ss.length : Int) := by omega
        have hw := with_slot_eq s ⟨f.name, f.rd, .cst f.val⟩ (hs s rfl)
        have ha := add_siss (a := ss) (b := [⟨s, f.name, f.rd, .cst f.val⟩]) (by simp [line]; omega)
        simp [g_layout_added, mAdded, sister_place_eq, c, optI, h60, h60', hw, ha]
def mReplaced (ss : List Sis) (lay : Option Shp) (i : Nat) (f : Fld) : List Sis × Option Shp := match lay with
  | none => (ss, none)
  | some s => match s.slots[i]? with
    | none => (ss, lay)
    | some x => if x.rd = f.rd then
        (match mSisPlace ss ⟨s.proto, s.slots.take i⟩ f.name f.rd with
          | none => ss
          | some j => mRisen ss j f.val, some ⟨s.proto, s.slots.set i ⟨f.name, f.rd, mJoined x.kind f.val⟩⟩)
      else (ss, some ⟨s.proto, s.slots.set i ⟨f.name, f.rd, .cst f.val⟩⟩)
theorem layout_replaced_eq (ss : List Sis) (lay : Option Shp) (i : Nat) (f : Fld) (hl : ss.length ≤ 1000) (hk : ∀ s ∈ ss, KOk s.kind) (hs : ∀ s, lay = some s → s.slots.length ≤ 1000 ∧ i < s.slots.length ∧ ∀ x ∈ s.slots, KOk x.kind) :
    layout_replaced_D [eSiss ss, eLay lay, .int (i : Int), eFld f] = some (eP (mReplaced ss lay i f)) := by
  unfold layout_replaced_D
  cases lay with
  | none => simp [g_layout_replaced, mReplaced]
  | some s =>
    obtain ⟨h1, h2, h3⟩ := hs s rfl
    have h0 : s.slots[i]? = some s.slots[i] := by simp [h2]
    have hj := joined_eq s.slots[i].kind f.val (h3 _ (List.getElem_mem h2))
    by_cases hr : s.slots[i].rd = f.rd
    · have hw := with_other_slot_eq s i ⟨f.name, f.rd, mJoined s.slots[i].kind f.val⟩ h2 h1
      cases c : mSisPlace ss ⟨s.proto, s.slots.take i⟩ f.name f.rd with
      | none => simp [g_layout_replaced, mReplaced, h0, hr, hj, hw, up_to_eq, sister_place_eq, c, optI]
      | some j =>
        have hri := with_risen_eq ss j f.val (sisPlace_lt c) hl hk
        have hn : ¬ ((j : Int) < 0) := by omega
        simp [g_layout_replaced, mReplaced, h0, hr, hj, hw, up_to_eq, sister_place_eq, c, optI, hri, hn]
    · have hw := with_other_slot_eq s i ⟨f.name, f.rd, .cst f.val⟩ h2 h1
      simp [g_layout_replaced, mReplaced, h0, hr, hw]
def mRemoved (lay : Option Shp) (i : Nat) : Option Shp := match lay with
  | none => none
  | some s => if (i : Int) < (s.slots.length : Int) - 1 then none else some ⟨s.proto, s.slots.take i⟩
theorem layout_removed_eq (lay : Option Shp) (i : Nat) : layout_removed_D [eLay lay, .int (i : Int)] = some (eLay (mRemoved lay i)) := by
  unfold layout_removed_D
  cases lay with
  | none => simp [g_layout_removed, mRemoved]
  | some s =>
    by_cases h : (i : Int) < (s.slots.length : Int) - 1
    · simp [g_layout_removed, mRemoved, h]
    · simp [g_layout_removed, mRemoved, h, up_to_eq]
def mLinked (lay : Option Shp) (p : Int) : Option Shp := lay.map fun s => ⟨p, s.slots⟩
theorem layout_linked_eq (lay : Option Shp) (p : Int) : layout_linked_D [eLay lay, .int p] = some (eLay (mLinked lay p)) := by
  unfold layout_linked_D
  cases lay with
  | none => simp [g_layout_linked, mLinked]
  | some s => simp [g_layout_linked, mLinked]
def mOutcome (b a : Option Shp) : Int := match b, a with
  | none, _ => 3
  | some _, none => 2
  | some s, some t => if t = s then 0 else 1
theorem outcome_eq (b a : Option Shp) : outcome_D [eLay b, eLay a] = some (.int (mOutcome b a)) := by
  unfold outcome_D
  cases b with
  | none => simp [g_outcome, mOutcome]
  | some s =>
    cases a with
    | none => simp [g_outcome, mOutcome]
    | some t =>
      by_cases h : t = s
      · simp [g_outcome, mOutcome, h]
      · simp [g_outcome, mOutcome, h]
end Sb
end
section
set_option Elab.async false
set_option linter.all false
set_option maxRecDepth 100000
set_option maxHeartbeats 4000000
namespace Sb
open L2 (atI ixN)
/-! ### what is valid -/
def KV : Kd → Prop
  | .cst w => mIsValue w = true
  | .knd n => 1 ≤ n ∧ n ≤ 6
theorem KV.ok {k : Kd} (h : KV k) : KOk k := by
  cases k with
  | cst w => trivial
  | knd n => exact fun e => by have := h.1; omega
theorem isValue_zero {v : Val} (h : mIsValue v = true) (h0 : v.1 = 0) : v.2 = 0 := by
  unfold mIsValue at h
  rw [if_pos h0] at h
  exact of_decide_eq_true h
theorem isValue_range {v : Val} (h : mIsValue v = true) : 0 ≤ v.1 ∧ v.1 ≤ 5 := by
  unfold mIsValue at h
  repeat' split at h
  all_goals first | omega | cases h
theorem joined_kv {k : Kd} {v : Val} (hk : KV k) (hv : mIsValue v = true) : KV (mJoined k v) := by
  unfold mJoined
  split
  · exact hk
  · rename_i hh
    cases k with
    | cst w =>
      simp only
      split
      · rename_i e
        have hr := isValue_range hv
        refine ⟨?_, by omega⟩
        rcases Int.lt_or_le v.1 1 with h | h
        · exfalso
          have h0 : v.1 = 0 := by omega
          have e1 := isValue_zero hv h0
          have e2 := isValue_zero (v := w) hk (by omega)
          apply hh
          unfold mHas
          obtain ⟨w1, w2⟩ := w
          obtain ⟨v1, v2⟩ := v
          simp only at h0 e e1 e2
          subst e1 e2 h0 e
          simp
        · exact h
      · exact ⟨by decide, by decide⟩
    | knd n => exact ⟨by decide, by decide⟩
theorem joined_has (k : Kd) (v : Val) : mHas (mJoined k v) v = true := by
  unfold mJoined
  split
  · assumption
  · cases k with
    | cst w =>
      simp only
      split <;> simp [mHas]
    | knd n => simp [mHas]
theorem risen_get {ss : List Sis} {i : Nat} {v : Val} {s : Sis} (h : s ∈ mRisen ss i v) : ∃ t ∈ ss, s.shape = t.shape ∧ s.name = t.name ∧ s.rd = t.rd ∧ (s.kind = t.kind ∨ s.kind = mJoined t.kind v) := by
  unfold mRisen at h
  split at h
  · rename_i t ht
    rcases List.mem_or_eq_of_mem_set h with h | h
    · exact ⟨s, h, rfl, rfl, rfl, .inl rfl⟩
    · exact ⟨t, List.mem_of_getElem? ht, by rw [h], by rw [h], by rw [h], .inr (by rw [h])⟩
  · exact ⟨s, h, rfl, rfl, rfl, .inl rfl⟩
theorem risen_len (ss : List Sis) (i : Nat) (v : Val) : (mRisen ss i v).length = ss.length := by
  unfold mRisen
  split
  · rw [List.length_set]
  · rfl
theorem added_len {ss : List Sis} {lay : Option Shp} {f : Fld} (h : ss.length ≤ 60) : (mAdded ss lay f).1.length ≤ 60 := by
  unfold mAdded
  split
  · exact h
  · split
    · simp only [risen_len]; exact h
    · split
      · exact h
      · simp only [List.length_append, List.length_cons, List.length_nil]; omega
theorem added_kv {ss : List Sis} {lay : Option Shp} {f : Fld} (h : ∀ s ∈ ss, KV s.kind) (hv : mIsValue f.val = true) : ∀ s ∈ (mAdded ss lay f).1, KV s.kind := by
  unfold mAdded
  split
  · exact h
  · split
    · intro s hs
      obtain ⟨t, ht, _, _, _, e⟩ := risen_get hs
      rcases e with e | e
      · rw [e]; exact h t ht
      · rw [e]; exact joined_kv (h t ht) hv
    · split
      · exact h
      · intro s hs
        rcases List.mem_append.mp hs with q | q
        · exact h s q
        · rw [List.mem_singleton.mp q]
          exact hv
theorem added_slots {ss : List Sis} {lay : Option Shp} {f : Fld} {s' : Shp} (h : (mAdded ss lay f).2 = some s') : ∃ s x, lay = some s ∧ s' = ⟨s.proto, s.slots ++ [x]⟩ := by
  unfold mAdded at h
  split at h
  · cases h
  · rename_i s
    split at h
    · cases h
      exact ⟨_, _, rfl, rfl⟩
    · split at h
      · cases h
      · cases h
        exact ⟨_, _, rfl, rfl⟩
def mMade (ss : List Sis) (p : Int) (fs : List Fld) : List Sis × Option Shp := fs.foldl (fun y f => mAdded y.1 y.2 f) (ss, some ⟨p, []⟩)
theorem made_loop (S P F : D) : ∀ (fs : List Fld) (ss : List Sis) (lay : Option Shp) (x : Option D) (k : Nat), ss.length ≤ 60 → (∀ s ∈ ss, KV s.kind) → (∀ s, lay = some s → s.slots.length ≤ k) → k + fs.length ≤ 900 → (∀ f ∈ fs, mIsValue f.val = true) →
    ∃ x', forD [5] (tgN 5) (sAsg (fCall 3 layout_added_D (fCons (fVar 3) (fCons (fVar 4) (fCons (fVar 5) fNil)))) [3, 4] (tgT [3, 4])) (fs.map eFld) ⟨[some S, some P, some F, some (eSiss ss), some (eLay lay), x], none⟩
      = some (.nx ⟨[some S, some P, some F, some (eSiss (fs.foldl (fun y f => mAdded y.1 y.2 f) (ss, lay)).1), some (eLay (fs.foldl (fun y f => mAdded y.1 y.2 f) (ss, lay)).2), x'], none⟩)
  | [], ss, lay, x, k, _, _, _, _, _ => ⟨x, rfl⟩
  | f :: fs, ss, lay, x, k, h1, h2, h3, h4, h5 => by
    simp only [List.length_cons] at h4
    obtain ⟨x', ih⟩ := made_loop S P F fs (mAdded ss lay f).1 (mAdded ss lay f).2 (some (eFld f)) (k + 1) (added_len h1) (added_kv h2 (h5 f List.mem_cons_self)) (fun s' hs' => by
      obtain ⟨s, y, e1, e2⟩ := added_slots hs'
      have := h3 s e1
      rw [e2]
      simp only [List.length_append, List.length_cons, List.length_nil]
      omega) (by omega) fun g hg => h5 g (List.mem_cons_of_mem _ hg)
    refine ⟨x', ?_⟩
    have q := layout_added_eq ss lay f (by omega) (fun s hs => (h2 s hs).ok) fun s hs => by have := h3 s hs; omega
    rw [List.map_cons, forD_step]
    simp [q]
    exact ih
theorem layout_made_eq (ss : List Sis) (p : Int) (fs : List Fld) (h1 : ss.length ≤ 60) (h2 : ∀ s ∈ ss, KV s.kind) (h4 : fs.length ≤ 900) (h5 : ∀ f ∈ fs, mIsValue f.val = true) : layout_made_D [eSiss ss, .int p, eFlds fs] = some (eP (mMade ss p fs)) := by
  unfold layout_made_D mMade
  obtain ⟨x, e⟩ := made_loop (eSiss ss) (.int p) (eFlds fs) fs ss (some ⟨p, []⟩) none 0 h1 h2 (fun s hs => by cases hs; simp) (by omega) h5
  simp [g_layout_made]
  unfold sFor iTp
  simp
  have e' : forD [5] (tgN 5) (sAsg (fCall 3 layout_added_D (fCons (fVar 3) (fCons (fVar 4) (fCons (fVar 5) fNil)))) [3, 4] (tgT [3, 4])) (fs.map eFld) ⟨[some (eSiss ss), some (.int p), some (eFlds fs), some (eSiss ss), some (eShp ⟨p, []⟩), none], none⟩ = _ := e
  show outD ((match eFlds fs with | D.tup ds => some ds | _ => none).bind _ |>.bind _) = _
  simp only [eFlds, Option.bind_some]
  rw [show D.tup (fs.map eFld) = eFlds fs from rfl, e']
  simp

/-! ### things -/
def mThere (ts : List Thg) (a : Int) : Bool := decide (0 ≤ a ∧ a < ts.length)
@[simp] theorem is_there_eq (ts : List Thg) (a : Int) : is_there_D [eThgs ts, .int a] = some (.bl (mThere ts a)) := by
  unfold is_there_D mThere
  simp [g_is_there]
def mKnown (ts : List Thg) (v : Val) : Bool := if v.1 = 4 then mThere ts v.2 else true
@[simp] theorem is_known_eq (ts : List Thg) (v : Val) : is_known_D [eThgs ts, eVal v] = some (.bl (mKnown ts v)) := by
  unfold is_known_D mKnown
  by_cases h : v.1 = 4
  · simp [g_is_known, h]
  · simp [g_is_known, h]
theorem with_thing_eq (ts : List Thg) (i : Nat) (t : Thg) (hi : i < ts.length) (hl : ts.length ≤ 1000) : with_thing_D [eThgs ts, .int (i : Int), eThg t] = some (eThgs (ts.set i t)) := by
  unfold with_thing_D
  obtain ⟨a, b, c, q1, q2, q3, q4⟩ := splice_of eThg (l := ts) (i := i) t hi hl (E := eThgs) (fun _ => rfl)
  simp [g_with_thing, q1, q2, q3, q4]
/-- the addresses along the prototypes -/
def mLine (ts : List Thg) : Nat → Int → List Int
  | 0, _ => []
  | n + 1, at_ => if 0 ≤ at_ then at_ :: mLine ts n ((ts[at_.toNat]?).map Thg.proto |>.getD (-1)) else mLine ts n at_
theorem line_loop (T A : D) (ts : List Thg) (hT : T = eThgs ts) (hp : ∀ t ∈ ts, t.proto < ts.length) : ∀ (items : List D) (at_ : Int) (acc : List Int) (x : Option D), at_ < ts.length → acc.length + items.length ≤ 1000 →
    ∃ at' x', forD [4] (tgN 4) (sIf (fT (f2 gGe (fVar 3) (fC (.int 0)))) (sSeq (sApp 2 (fVar 3)) (sAsg (f2 gIx (f2 gIx (fVar 0) (fVar 3)) (fC (.int 0))) [3] (tgN 3))) sNext) items ⟨[some T, some A, none, some (.int at_), x], some (2, acc.map D.int)⟩
      = some (.nx ⟨[some T, some A, none, some at', x'], some (2, (acc ++ mLine ts items.length at_).map D.int)⟩)
  | [], at_, acc, x, h1, h2 => ⟨.int at_, x, by simp [forD_nil, mLine]⟩
  | d :: items, at_, acc, x, h1, h2 => by
    simp only [List.length_cons] at h2
    rw [forD_step]
    by_cases h : 0 ≤ at_
    · have hi : at_.toNat < ts.length := by omega
      have he : (at_ : Int) = ((at_.toNat : Nat) : Int) := by omega
      have h0 : ts[at_.toNat]? = some ts[at_.toNat] := by simp [hi]
      have hx : gIx T (.int at_) = some (eThg ts[at_.toNat]) := by
        have q := ix_thgs ts at_.toNat
        rw [← he, h0] at q
        rw [hT]
        exact q
      obtain ⟨at', x', ih⟩ := line_loop T A ts hT hp items ts[at_.toNat].proto (acc ++ [at_]) (some d) (hp _ (List.getElem_mem hi)) (by simp; omega)
      have hl : acc.length < line := by unfold line; omega
      refine ⟨at', x', ?_⟩
      simp [h, hl, hx, mLine, h0]
      simpa using ih
    · obtain ⟨at', x', ih⟩ := line_loop T A ts hT hp items at_ acc (some d) h1 (by omega)
      refine ⟨at', x', ?_⟩
      simp [h, mLine]
      simpa using ih
theorem line_from_eq (ts : List Thg) (a : Int) (hp : ∀ t ∈ ts, t.proto < ts.length) (ha : a < ts.length) (hl : ts.length ≤ 40) : line_from_D [eThgs ts, .int a] = some (eInts (mLine ts ts.length a)) := by
  unfold line_from_D
  obtain ⟨at', x', e⟩ := line_loop (eThgs ts) (.int a) ts rfl hp ((List.range ts.length).map fun i => D.int (i : Nat)) a [] none ha (by simp; omega)
  simp [g_line_from]
  unfold sFor iR1
  have hc : (0 : Int) ≤ (ts.length : Int) ∧ (ts.length : Int) < 1000 := by omega
  simp [hc]
  have e' : forD [4] (tgN 4) (sIf (fT (f2 gGe (fVar 3) (fC (.int 0)))) (sSeq (sApp 2 (fVar 3)) (sAsg (f2 gIx (f2 gIx (fVar 0) (fVar 3)) (fC (.int 0))) [3] (tgN 3))) sNext) ((List.range ts.length).map fun i => D.int (i : Nat)) ⟨[some (eThgs ts), some (.int a), none, some (.int a), none], some (2, [])⟩ = _ := e
  simp [e', eInts]
end Sb
end
section
set_option Elab.async false
set_option linter.all false
set_option maxRecDepth 100000
set_option maxHeartbeats 4000000
namespace Sb
open L2 (atI ixN)
/-! ### a good state -/
inductive Fits : List Slt → List Fld → Prop
  | nil : Fits [] []
  | cons {x : Slt} {f : Fld} {xs : List Slt} {fs : List Fld} : x.name = f.name → x.rd = f.rd → KV x.kind → mHas x.kind f.val = true → Fits xs fs → Fits (x :: xs) (f :: fs)
structure SltV (x : Slt) : Prop where
  nm : mIsName x.name = true
  rd : mBit x.rd = true
  kd : KV x.kind
structure ShpV (n : Nat) (s : Shp) : Prop where
  pr : -1 ≤ s.proto
  sl : ∀ x ∈ s.slots, SltV x
  ln : s.slots.length ≤ n
structure SisV (s : Sis) : Prop where
  sh : ShpV 8 s.shape
  nm : mIsName s.name = true
  rd : mBit s.rd = true
  kd : KV s.kind
structure ThgV (n : Nat) (t : Thg) : Prop where
  pr : -1 ≤ t.proto ∧ t.proto < n
  fl : ∀ f ∈ t.fields, mIsField f = true
  nd : (t.fields.map Fld.name).Nodup
  ln : t.fields.length ≤ 8
  ly : ∀ s, t.lay = some s → s.proto = t.proto ∧ Fits s.slots t.fields
abbrev Stt := List Thg × List Sis
structure Good (st : Stt) : Prop where
  tl : st.1.length ≤ 40
  sl : st.2.length ≤ 60
  th : ∀ t ∈ st.1, ThgV st.1.length t
  si : ∀ s ∈ st.2, SisV s
  un : st.2.Pairwise fun a b => ¬ (a.shape = b.shape ∧ a.name = b.name ∧ a.rd = b.rd)
  ac : ∃ rank : Nat → Nat, ∀ (i : Nat) (t : Thg), st.1[i]? = some t → 0 ≤ t.proto → rank t.proto.toNat < rank i
theorem Fits.length {xs : List Slt} {fs : List Fld} (h : Fits xs fs) : xs.length = fs.length := by
  induction h with
  | nil => rfl
  | cons _ _ _ _ _ ih => simp [ih]
theorem Fits.kv {xs : List Slt} {fs : List Fld} (h : Fits xs fs) : ∀ x ∈ xs, KV x.kind := by
  induction h with
  | nil => intro x hx; simp at hx
  | cons _ _ k _ _ ih =>
    intro x hx
    rcases List.mem_cons.mp hx with rfl | hx
    · exact k
    · exact ih x hx
theorem isField_val {f : Fld} (h : mIsField f = true) : mIsValue f.val = true := by
  unfold mIsField at h
  rw [Bool.and_eq_true, Bool.and_eq_true] at h
  exact h.2.2

/-! ### fields put in, taken out -/
def eQ (x : List Sis × Thg) : D := .tup [eSiss x.1, eThg x.2]
@[simp] theorem b_q (ss : List Sis) (t : Thg) : D.tup [eSiss ss, eThg t] = eQ (ss, t) := id rfl
@[simp] theorem tg_q (i j : Nat) (x : List Sis × Thg) (sl : Sl) : tgT [i, j] (eQ x) sl = some ((sl.set i (some (eSiss x.1))).set j (some (eThg x.2))) := id rfl
def mWithField (ss : List Sis) (t : Thg) (f : Fld) : List Sis × Thg := match mPlace t.fields f.name with
  | none => ((mAdded ss t.lay f).1, ⟨t.proto, t.fields ++ [f], (mAdded ss t.lay f).2⟩)
  | some i => ((mReplaced ss t.lay i f).1, ⟨t.proto, t.fields.set i f, (mReplaced ss t.lay i f).2⟩)
theorem place_lt {fs : List Fld} {n : Int} {i : Nat} (h : mPlace fs n = some i) : i < fs.length := by
  obtain ⟨a, h1, h2, _⟩ := findF_some h
  have := (List.getElem?_eq_some_iff.mp h2).1
  omega
theorem with_field_eq {n : Nat} (ss : List Sis) (t : Thg) (f : Fld) (hl : ss.length ≤ 60) (hk : ∀ s ∈ ss, SisV s) (ht : ThgV n t) : with_field_D [eSiss ss, eThg t, eFld f] = some (eQ (mWithField ss t f)) := by
  unfold with_field_D mWithField
  have h8 := ht.ln
  cases c : mPlace t.fields f.name with
  | none =>
    have q := layout_added_eq ss t.lay f (by omega) (fun s hs => (hk s hs).kd.ok) fun s hs => by rw [((ht.ly s hs).2).length]; omega
    have ha := add_flds (a := t.fields) (b := [f]) (by simp [line]; omega)
    simp [g_with_field, c, optI, q, ha]
  | some i =>
    have hi := place_lt c
    have q := layout_replaced_eq ss t.lay i f (by omega) (fun s hs => (hk s hs).kd.ok) fun s hs => by
      have e := ((ht.ly s hs).2).length
      exact ⟨by omega, by omega, fun x hx => (((ht.ly s hs).2).kv x hx).ok⟩
    obtain ⟨a, b, d, q1, q2, q3, q4⟩ := splice_of eFld (l := t.fields) (i := i) f hi (by omega) (E := eFlds) (fun _ => rfl)
    have hn : ¬ ((i : Int) < 0) := by omega
    simp [g_with_field, c, optI, q, hn, q1, q2, q3, q4]
def mWithout (t : Thg) (i : Nat) : Thg := ⟨t.proto, t.fields.eraseIdx i, mRemoved t.lay i⟩
theorem without_field_eq {n : Nat} (t : Thg) (i : Nat) (ht : ThgV n t) (hi : i < t.fields.length) : without_field_D [eThg t, .int (i : Int)] = some (eThg (mWithout t i)) := by
  unfold without_field_D mWithout
  have h8 := ht.ln
  obtain ⟨a, c, q1, q2, q3⟩ := splice0_of eFld (l := t.fields) (i := i) hi (by omega) (E := eFlds) (fun _ => rfl)
  simp [g_without_field, q1, q2, q3, layout_removed_eq]
def mCaught (ss : List Sis) (t : Thg) : List Sis × Thg := if t.lay = none then (ss, t) else ((mMade ss t.proto t.fields).1, ⟨t.proto, t.fields, (mMade ss t.proto t.fields).2⟩)
theorem caught_up_eq {n : Nat} (ss : List Sis) (t : Thg) (hl : ss.length ≤ 60) (hk : ∀ s ∈ ss, KV s.kind) (ht : ThgV n t) : caught_up_D [eSiss ss, eThg t] = some (eQ (mCaught ss t)) := by
  unfold caught_up_D mCaught
  have h8 := ht.ln
  have q := layout_made_eq ss t.proto t.fields hl hk (by omega) fun f hf => isField_val (ht.fl f hf)
  obtain ⟨p, fs, lay⟩ := t
  cases lay with
  | none => simp [g_caught_up]
  | some s =>
    simp only at q
    simp [g_caught_up, q]
def thAt (ts : List Thg) (a : Int) : Thg := (ts[a.toNat]?).getD ⟨-1, [], none⟩
theorem there_get {ts : List Thg} {a : Int} (h : mThere ts a = true) : a.toNat < ts.length ∧ a = ((a.toNat : Nat) : Int) ∧ ts[a.toNat]? = some (thAt ts a) ∧ thAt ts a ∈ ts := by
  unfold mThere at h
  have h' := of_decide_eq_true h
  have h1 : a.toNat < ts.length := by omega
  have h2 : ts[a.toNat]? = some (thAt ts a) := by
    unfold thAt
    simp [h1]
  exact ⟨h1, by omega, h2, List.mem_of_getElem? h2⟩
theorem ix_there {ts : List Thg} {a : Int} (h : mThere ts a = true) : gIx (eThgs ts) (.int a) = some (eThg (thAt ts a)) := by
  obtain ⟨h1, h2, h3, _⟩ := there_get h
  have q := ix_thgs ts a.toNat
  rw [← h2, h3] at q
  exact q
def mPutRef (ts : List Thg) (a : Int) (f : Fld) : Int := if mIsField f = false then -1 else if mThere ts a = false ∨ mKnown ts f.val = false then -2 else if mPlace (thAt ts a).fields f.name = none ∧ 8 ≤ (thAt ts a).fields.length then -11 else 0
theorem put_refusal_eq (ts : List Thg) (a : Int) (f : Fld) : put_refusal_D [eThgs ts, .int a, eFld f] = some (.int (mPutRef ts a f)) := by
  unfold put_refusal_D mPutRef
  cases h1 : mIsField f with
  | false => simp [g_put_refusal, h1]
  | true =>
    cases h2 : mThere ts a with
    | false => simp [g_put_refusal, h1, h2]
    | true =>
      cases h3 : mKnown ts f.val with
      | false => simp [g_put_refusal, h1, h2, h3]
      | true =>
        have hx := ix_there h2
        cases c : mPlace (thAt ts a).fields f.name with
        | some i =>
          have hn : ¬ ((i : Int) < 0) := by omega
          simp [g_put_refusal, h1, h2, h3, hx, c, optI, hn]
        | none =>
          by_cases h8 : 8 ≤ (thAt ts a).fields.length
          · have h8' : (8 : Int) ≤ ((thAt ts a).fields.length : Int) := by omega
            simp [g_put_refusal, h1, h2, h3, hx, c, optI, h8, h8']
          · have h8' : ¬ (8 : Int) ≤ ((thAt ts a).fields.length : Int) := by omega
            simp [g_put_refusal, h1, h2, h3, hx, c, optI, h8, h8']
def mMakeRef (ts : List Thg) (p : Int) (ns : List Int) : Int := if p < -1 ∨ mIsList ns = false then -1 else if mTwice (mListed ns) = true then -1 else if (ts.length : Int) ≤ p ∨ ((mListed ns).all fun f => mKnown ts f.val) = false then -2 else if 8 < (mListed ns).length then -11 else if 40 ≤ ts.length then -8 else 0
theorem make_refusal_eq (ts : List Thg) (p : Int) (ns : List Int) (hl : ns.length ≤ 700) : make_refusal_D [eThgs ts, .int p, eInts ns] = some (.int (mMakeRef ts p ns)) := by
  unfold make_refusal_D mMakeRef
  have hi := is_list_eq hl
  by_cases h1 : p < -1
  · simp [g_make_refusal, h1]
  · cases h2 : mIsList ns with
    | false => simp [g_make_refusal, h1, hi, h2]
    | true =>
      have h4 : ns.length % 4 = 0 := by
        unfold mIsList at h2
        rw [Bool.and_eq_true] at h2
        exact of_decide_eq_true h2.1
      have hf := listed_fields_eq h4 hl
      cases h3 : mTwice (mListed ns) with
      | true => simp [g_make_refusal, h1, hi, h2, hf, h3]
      | false =>
        have hc : fLc (iTp (fVar 3)) (tgN 4) fYes (fCall 2 is_known_D (fCons (fVar 0) (fCons (f2 gIx (fVar 4) (fC (.int 2))) fNil))) [4] [some (eThgs ts), some (.int p), some (eInts ns), some (eFlds (mListed ns)), none] = some (.lst ((mListed ns).map fun f => .bl (mKnown ts f.val))) := by
          unfold fLc iTp
          simp only [s_fVar, List.getElem?_cons_succ, List.getElem?_cons_zero, Option.join_some, Option.bind_some]
          show (if ((mListed ns).map eFld).length ≤ line then _ else _) = _
          rw [if_pos (by rw [List.length_map]; exact lf3 hl)]
          show (compD _ _ _ _ ((mListed ns).map eFld)).map D.lst = _
          rw [compD_map (h := fun f => D.bl (mKnown ts f.val))]
          · rfl
          · intro f hf
            simp [wipeS]
        by_cases h5 : (ts.length : Int) ≤ p
        · simp [g_make_refusal, h1, hi, h2, hf, h3, h5]
        · cases h6 : ((mListed ns).all fun f => mKnown ts f.val) with
          | false =>
            simp [g_make_refusal, h1, hi, h2, hf, h3, h5]
            rw [hc]
            simp [all_map, h6]
          | true =>
            by_cases h7 : 8 < (mListed ns).length
            · have h7' : (8 : Int) < ((mListed ns).length : Int) := by omega
              simp [g_make_refusal, h1, hi, h2, hf, h3, h5]
              rw [hc]
              simp [all_map, h6, h7, h7']
            · have h7' : ¬ (8 : Int) < ((mListed ns).length : Int) := by omega
              by_cases h8 : 40 ≤ ts.length
              · have h8' : (40 : Int) ≤ (ts.length : Int) := by omega
                simp [g_make_refusal, h1, hi, h2, hf, h3, h5]
                rw [hc]
                simp [all_map, h6, h7, h7', h8, h8']
              · have h8' : ¬ (40 : Int) ≤ (ts.length : Int) := by omega
                simp [g_make_refusal, h1, hi, h2, hf, h3, h5]
                rw [hc]
                simp [all_map, h6, h7, h7', h8, h8']
end Sb
end
section
set_option Elab.async false
set_option linter.all false
set_option maxRecDepth 100000
set_option maxHeartbeats 4000000
namespace Sb
open L2 (atI ixN)
/-! ### the operations 0 to 6 -/
def eS (st : Stt) : D := .tup [eThgs st.1, eSiss st.2]
def eR (x : Stt × List Int) : D := .tup [eS x.1, eInts x.2]
@[simp] theorem b_s (ts : List Thg) (ss : List Sis) : D.tup [eThgs ts, eSiss ss] = eS (ts, ss) := id rfl
@[simp] theorem b_i1 (a : Int) : D.lst [.int a] = eInts [a] := id rfl
@[simp] theorem b_i2 (a b : Int) : D.lst [.int a, .int b] = eInts [a, b] := id rfl
@[simp] theorem b_r (st : Stt) (l : List Int) : D.tup [eS st, eInts l] = eR (st, l) := id rfl
@[simp] theorem tg_s (i j : Nat) (x : Stt) (sl : Sl) : tgT [i, j] (eS x) sl = some ((sl.set i (some (eThgs x.1))).set j (some (eSiss x.2))) := id rfl
@[simp] theorem tg_r (i j : Nat) (x : Stt × List Int) (sl : Sl) : tgT [i, j] (eR x) sl = some ((sl.set i (some (eS x.1))).set j (some (eInts x.2))) := id rfl
def mMake (st : Stt) (p : Int) (ns : List Int) : Stt × List Int := if mMakeRef st.1 p ns < 0 then (st, [mMakeRef st.1 p ns]) else
  ((st.1 ++ [⟨p, mListed ns, (mMade st.2 p (mListed ns)).2⟩], (mMade st.2 p (mListed ns)).1), [0, (st.1.length : Int)])
theorem makeRef_ok {ts : List Thg} {p : Int} {ns : List Int} (h : ¬ mMakeRef ts p ns < 0) : -1 ≤ p ∧ p < ts.length ∧ ns.length % 4 = 0 ∧ (∀ f ∈ mListed ns, mIsField f = true) ∧ mTwice (mListed ns) = false ∧ (∀ f ∈ mListed ns, mKnown ts f.val = true) ∧ (mListed ns).length ≤ 8 ∧ ts.length < 40 ∧ mMakeRef ts p ns = 0 := by
  unfold mMakeRef at h
  unfold mMakeRef
  by_cases h1 : p < -1 ∨ mIsList ns = false
  · rw [if_pos h1] at h; exact absurd (by decide) h
  · rw [if_neg h1] at h ⊢
    by_cases h2 : mTwice (mListed ns) = true
    · rw [if_pos h2] at h; exact absurd (by decide) h
    · rw [if_neg h2] at h ⊢
      by_cases h3 : (ts.length : Int) ≤ p ∨ ((mListed ns).all fun f => mKnown ts f.val) = false
      · rw [if_pos h3] at h; exact absurd (by decide) h
      · rw [if_neg h3] at h ⊢
        by_cases h4 : 8 < (mListed ns).length
        · rw [if_pos h4] at h; exact absurd (by decide) h
        · rw [if_neg h4] at h ⊢
          by_cases h5 : 40 ≤ ts.length
          · rw [if_pos h5] at h; exact absurd (by decide) h
          · rw [if_neg h5]
            rw [not_or] at h1 h3
            have hl : mIsList ns = true := by simpa using h1.2
            unfold mIsList at hl
            rw [Bool.and_eq_true, List.all_eq_true] at hl
            have hk : ((mListed ns).all fun f => mKnown ts f.val) = true := by simpa using h3.2
            rw [List.all_eq_true] at hk
            exact ⟨by omega, by omega, of_decide_eq_true hl.1, hl.2, by simpa using h2, hk, by omega, by omega, rfl⟩
theorem make_eq (st : Stt) (p : Int) (ns : List Int) (g : Good st) (hl : ns.length ≤ 700) : make_D [eS st, .int p, eInts ns] = some (eR (mMake st p ns)) := by
  unfold make_D mMake
  have hr := make_refusal_eq st.1 p ns hl
  by_cases h : mMakeRef st.1 p ns < 0
  · simp [g_make, hr, h]
  · obtain ⟨_, _, h4, h5, _, _, h8, h40, _⟩ := makeRef_ok h
    have hm := layout_made_eq st.2 p (mListed ns) g.sl (fun s hs => (g.si s hs).kd) (by omega) fun f hf => isField_val (h5 f hf)
    have ha := add_thgs (a := st.1) (b := [⟨p, mListed ns, (mMade st.2 p (mListed ns)).2⟩]) (by simp [line]; omega)
    simp [g_make, hr, h, listed_fields_eq h4 hl, hm, ha]
def mPut (st : Stt) (a : Int) (f : Fld) : Stt × List Int := if mPutRef st.1 a f < 0 then (st, [mPutRef st.1 a f]) else
  ((st.1.set a.toNat (mWithField st.2 (thAt st.1 a) f).2, (mWithField st.2 (thAt st.1 a) f).1), [0, mOutcome (thAt st.1 a).lay (mWithField st.2 (thAt st.1 a) f).2.lay])
theorem putRef_ok {ts : List Thg} {a : Int} {f : Fld} (h : ¬ mPutRef ts a f < 0) : mIsField f = true ∧ mThere ts a = true ∧ mKnown ts f.val = true ∧ (mPlace (thAt ts a).fields f.name = none → (thAt ts a).fields.length < 8) ∧ mPutRef ts a f = 0 := by
  unfold mPutRef at h
  unfold mPutRef
  by_cases h1 : mIsField f = false
  · rw [if_pos h1] at h; exact absurd (by decide) h
  · rw [if_neg h1] at h ⊢
    by_cases h2 : mThere ts a = false ∨ mKnown ts f.val = false
    · rw [if_pos h2] at h; exact absurd (by decide) h
    · rw [if_neg h2] at h ⊢
      by_cases h3 : mPlace (thAt ts a).fields f.name = none ∧ 8 ≤ (thAt ts a).fields.length
      · rw [if_pos h3] at h; exact absurd (by decide) h
      · rw [if_neg h3]
        rw [not_or] at h2
        refine ⟨by simpa using h1, by simpa using h2.1, by simpa using h2.2, fun e => ?_, rfl⟩
        rcases Nat.lt_or_ge (thAt ts a).fields.length 8 with q | q
        · exact q
        · exact absurd ⟨e, q⟩ h3
theorem set_there {ts : List Thg} {a : Int} (t : Thg) (h : mThere ts a = true) (hl : ts.length ≤ 1000) : with_thing_D [eThgs ts, .int a, eThg t] = some (eThgs (ts.set a.toNat t)) := by
  obtain ⟨h1, h2, _⟩ := there_get h
  have q := with_thing_eq ts a.toNat t h1 hl
  rw [← h2] at q
  exact q
theorem put_eq (st : Stt) (a : Int) (f : Fld) (g : Good st) : put_D [eS st, .int a, eFld f] = some (eR (mPut st a f)) := by
  unfold put_D mPut
  have hr := put_refusal_eq st.1 a f
  have h40 := g.tl
  by_cases h : mPutRef st.1 a f < 0
  · simp [g_put, hr, h]
  · obtain ⟨_, h2, _⟩ := putRef_ok h
    obtain ⟨_, _, _, hm⟩ := there_get h2
    have hw := with_field_eq st.2 (thAt st.1 a) f g.sl g.si (g.th _ hm)
    have hs := set_there (mWithField st.2 (thAt st.1 a) f).2 h2 (by omega)
    simp [g_put, hr, h, ix_there h2, hw, hs, outcome_eq]
def mTake (st : Stt) (a name : Int) : Stt × List Int := if mIsName name = false then (st, [-1]) else if mThere st.1 a = false then (st, [-2]) else match mPlace (thAt st.1 a).fields name with
  | none => (st, [-3])
  | some i => ((st.1.set a.toNat (mWithout (thAt st.1 a) i), st.2), [0, mOutcome (thAt st.1 a).lay (mWithout (thAt st.1 a) i).lay])
theorem take_out_eq (st : Stt) (a n : Int) (g : Good st) : take_out_D [eS st, .int a, .int n] = some (eR (mTake st a n)) := by
  unfold take_out_D mTake
  have h40 := g.tl
  cases h1 : mIsName n with
  | false => simp [g_take_out, h1]
  | true =>
    cases h2 : mThere st.1 a with
    | false => simp [g_take_out, h1, h2]
    | true =>
      obtain ⟨_, _, _, hm⟩ := there_get h2
      cases c : mPlace (thAt st.1 a).fields n with
      | none => simp [g_take_out, h1, h2, ix_there h2, c, optI]
      | some i =>
        have hn : ¬ ((i : Int) < 0) := by omega
        have hw := without_field_eq (thAt st.1 a) i (g.th _ hm) (place_lt c)
        have hs := set_there (mWithout (thAt st.1 a) i) h2 (by omega)
        simp [g_take_out, h1, h2, ix_there h2, c, optI, hn, hw, hs, outcome_eq]
def mLink (st : Stt) (a p : Int) : Stt × List Int := if p < -1 then (st, [-1]) else if mThere st.1 a = false ∨ (st.1.length : Int) ≤ p then (st, [-2]) else if a ∈ mLine st.1 st.1.length p then (st, [-9]) else
  ((st.1.set a.toNat ⟨p, (thAt st.1 a).fields, mLinked (thAt st.1 a).lay p⟩, st.2), [0, mOutcome (thAt st.1 a).lay (mLinked (thAt st.1 a).lay p)])
theorem in_ints (a : Int) (l : List Int) : gIn (.int a) (eInts l) = some (.bl (decide (a ∈ l))) := by
  unfold gIn eInts
  have h1 : okD 60 (.int a) = true := ok_int
  have h2 : okL 60 (l.map D.int) = true := okL_map (fun a => ok_int) l
  simp only [h1, h2, Bool.and_self, if_true, Option.some.injEq, D.bl.injEq]
  rw [List.any_map, Bool.eq_iff_iff]
  simp only [List.any_eq_true, Function.comp_apply, decide_eq_true_eq]
  constructor
  · rintro ⟨x, hx, e⟩
    have q := (eqD_dec (ok_int (n := 60) (i := x)) (ok_int (n := 60) (i := a))).mp e
    simp at q
    rw [← q]
    exact hx
  · intro h
    exact ⟨a, h, (eqD_dec (ok_int (n := 60)) (ok_int (n := 60))).mpr rfl⟩
theorem link_eq (st : Stt) (a p : Int) (g : Good st) : link_D [eS st, .int a, .int p] = some (eR (mLink st a p)) := by
  unfold link_D mLink
  have h40 := g.tl
  by_cases h1 : p < -1
  · simp [g_link, h1]
  · cases h2 : mThere st.1 a with
    | false => simp [g_link, h1, h2]
    | true =>
      by_cases h3 : (st.1.length : Int) ≤ p
      · simp [g_link, h1, h2, h3]
      · have hlf := line_from_eq st.1 p (fun t ht => ((g.th t ht).pr).2) (by omega) g.tl
        by_cases h4 : a ∈ mLine st.1 st.1.length p
        · simp [g_link, h1, h2, h3, hlf, in_ints, h4]
        · have hs := set_there ⟨p, (thAt st.1 a).fields, mLinked (thAt st.1 a).lay p⟩ h2 (by omega)
          simp [g_link, h1, h2, h3, hlf, in_ints, h4, ix_there h2, layout_linked_eq, hs, outcome_eq]
def mLoosen (st : Stt) (a : Int) : Stt × List Int := if mThere st.1 a = false then (st, [-2]) else
  ((st.1.set a.toNat ⟨(thAt st.1 a).proto, (thAt st.1 a).fields, none⟩, st.2), [0, mOutcome (thAt st.1 a).lay none])
theorem loosen_eq (st : Stt) (a : Int) (g : Good st) : loosen_D [eS st, .int a] = some (eR (mLoosen st a)) := by
  unfold loosen_D mLoosen
  have h40 := g.tl
  cases h2 : mThere st.1 a with
  | false => simp [g_loosen, h2]
  | true =>
    have hs := set_there ⟨(thAt st.1 a).proto, (thAt st.1 a).fields, none⟩ h2 (by omega)
    have ho : outcome_D [eLay (thAt st.1 a).lay, .non] = _ := outcome_eq (thAt st.1 a).lay none
    simp [g_loosen, h2, ix_there h2, hs, ho]
def mSettle (st : Stt) (a : Int) : Stt × List Int := if mThere st.1 a = false then (st, [-2]) else if (thAt st.1 a).lay ≠ none then (st, [0, 0]) else
  ((st.1.set a.toNat ⟨(thAt st.1 a).proto, (thAt st.1 a).fields, some ⟨(thAt st.1 a).proto, mConst (thAt st.1 a).fields⟩⟩, st.2), [0, 1])
theorem settle_eq (st : Stt) (a : Int) (g : Good st) : settle_D [eS st, .int a] = some (eR (mSettle st a)) := by
  unfold settle_D mSettle
  have h40 := g.tl
  cases h2 : mThere st.1 a with
  | false => simp [g_settle, h2]
  | true =>
    obtain ⟨_, _, _, hm⟩ := there_get h2
    have h8 := (g.th _ hm).ln
    cases c : (thAt st.1 a).lay with
    | some s =>
      have e1 : gIsNot (eShp s) .non = some (.bl true) := rfl
      simp [g_settle, h2, ix_there h2, c, e1]
    | none =>
      have hc := constant_shape_eq (thAt st.1 a).proto (thAt st.1 a).fields (by omega)
      have hs := set_there ⟨(thAt st.1 a).proto, (thAt st.1 a).fields, some ⟨(thAt st.1 a).proto, mConst (thAt st.1 a).fields⟩⟩ h2 (by omega)
      have e1 : gIsNot .non .non = some (.bl false) := rfl
      simp [g_settle, h2, ix_there h2, c, e1, hc, hs]
/-- things caught up, with the sisters and the count -/
def mCatchF (x : List Sis × List Thg × Int) (t : Thg) : List Sis × List Thg × Int := ((mCaught x.1 t).1, x.2.1 ++ [(mCaught x.1 t).2], if (mCaught x.1 t).2.lay = t.lay then x.2.2 else x.2.2 + 1)
def mCatch (st : Stt) : Stt × List Int := (((st.1.foldl mCatchF (st.2, [], 0)).2.1, (st.1.foldl mCatchF (st.2, [], 0)).1), [0, (st.1.foldl mCatchF (st.2, [], 0)).2.2])
theorem made_len {ss : List Sis} {p : Int} : ∀ {fs : List Fld} {lay : Option Shp}, ss.length ≤ 60 → (fs.foldl (fun (y : List Sis × Option Shp) f => mAdded y.1 y.2 f) (ss, lay)).1.length ≤ 60 := by
  intro fs
  induction fs generalizing ss with
  | nil => intro lay h; exact h
  | cons f fs ih => intro lay h; exact ih (added_len h)
theorem made_kv : ∀ {fs : List Fld} {ss : List Sis} {lay : Option Shp}, (∀ s ∈ ss, KV s.kind) → (∀ f ∈ fs, mIsValue f.val = true) → ∀ s ∈ (fs.foldl (fun (y : List Sis × Option Shp) f => mAdded y.1 y.2 f) (ss, lay)).1, KV s.kind
  | [], _, _, h, _ => h
  | f :: fs, ss, lay, h, hv => made_kv (fs := fs) (added_kv h (hv f List.mem_cons_self)) fun g hg => hv g (List.mem_cons_of_mem _ hg)
theorem caught_len {ss : List Sis} {t : Thg} (h : ss.length ≤ 60) : (mCaught ss t).1.length ≤ 60 := by
  unfold mCaught
  split
  · exact h
  · exact made_len (p := 0) h
theorem caught_kv {n : Nat} {ss : List Sis} {t : Thg} (h : ∀ s ∈ ss, KV s.kind) (ht : ThgV n t) : ∀ s ∈ (mCaught ss t).1, KV s.kind := by
  unfold mCaught
  split
  · exact h
  · exact made_kv h fun f hf => isField_val (ht.fl f hf)
theorem catch_loop (S T : D) (S2 : D) : ∀ (ts : List Thg) (x : List Sis × List Thg × Int) (a b : Option D) (n : Nat), x.1.length ≤ 60 → (∀ s ∈ x.1, KV s.kind) → (∀ t ∈ ts, ThgV n t) → x.2.1.length + ts.length ≤ 1000 →
    ∃ a' b', forD [6] (tgN 6) (sSeq (sAsg (fCall 2 caught_up_D (fCons (fVar 4) (fCons (fVar 6) fNil))) [4, 7] (tgT [4, 7])) (sSeq (sAsg (f2 gAdd (fVar 3) (fTup (fCons (fVar 7) fNil))) [3] (tgN 3)) (sIf (fT (f2 gNe (f2 gIx (fVar 7) (fC (.int 2))) (f2 gIx (fVar 6) (fC (.int 2))))) (sAsg (f2 gAdd (fVar 5) (fC (.int 1))) [5] (tgN 5)) sNext))) (ts.map eThg)
      ⟨[some S, some T, some S2, some (eThgs x.2.1), some (eSiss x.1), some (.int x.2.2), a, b], none⟩ = some (.nx ⟨[some S, some T, some S2, some (eThgs (ts.foldl mCatchF x).2.1), some (eSiss (ts.foldl mCatchF x).1), some (.int (ts.foldl mCatchF x).2.2), a', b'], none⟩)
  | [], x, a, b, n, _, _, _, _ => ⟨a, b, rfl⟩
  | t :: ts, x, a, b, n, h1, h2, h3, h4 => by
    simp only [List.length_cons] at h4
    have ht := h3 t List.mem_cons_self
    obtain ⟨a', b', ih⟩ := catch_loop S T S2 ts (mCatchF x t) (some (eThg t)) (some (eThg (mCaught x.1 t).2)) n (caught_len h1) (caught_kv h2 ht) (fun u hu => h3 u (List.mem_cons_of_mem _ hu)) (by simp [mCatchF]; omega)
    refine ⟨a', b', ?_⟩
    have q := caught_up_eq x.1 t h1 h2 ht
    have ha := add_thgs (a := x.2.1) (b := [(mCaught x.1 t).2]) (by simp [line]; omega)
    rw [List.map_cons, forD_step]
    by_cases e : (mCaught x.1 t).2.lay = t.lay
    · simp [mCatchF, e] at ih
      simp [q, ha, e]
      rw [ih]
      simp [mCatchF, e]
    · simp [mCatchF, e] at ih
      simp [q, ha, e]
      rw [ih]
      simp [mCatchF, e]
theorem catch_up_eq (st : Stt) (g : Good st) : catch_up_D [eS st] = some (eR (mCatch st)) := by
  unfold catch_up_D mCatch
  have h40 := g.tl
  obtain ⟨a, b, e⟩ := catch_loop (eS st) (eThgs st.1) (eSiss st.2) st.1 (st.2, [], 0) none none st.1.length g.sl (fun s hs => (g.si s hs).kd) g.th (by simp; omega)
  simp [g_catch_up]
  unfold sFor iTp
  simp
  have e' : forD [6] (tgN 6) (sSeq (sAsg (fCall 2 caught_up_D (fCons (fVar 4) (fCons (fVar 6) fNil))) [4, 7] (tgT [4, 7])) (sSeq (sAsg (f2 gAdd (fVar 3) (fTup (fCons (fVar 7) fNil))) [3] (tgN 3)) (sIf (fT (f2 gNe (f2 gIx (fVar 7) (fC (.int 2))) (f2 gIx (fVar 6) (fC (.int 2))))) (sAsg (f2 gAdd (fVar 5) (fC (.int 1))) [5] (tgN 5)) sNext))) (st.1.map eThg)
      ⟨[some (eS st), some (eThgs st.1), some (eSiss st.2), some (.tup []), some (eSiss st.2), some (.int 0), none, none], none⟩ = _ := e
  show outD ((match eThgs st.1 with | D.tup ds => some ds | _ => none).bind _ |>.bind _) = _
  simp only [eThgs, Option.bind_some]
  rw [show D.tup (st.1.map eThg) = eThgs st.1 from rfl, e']
  simp
end Sb
end
section
set_option Elab.async false
set_option linter.all false
set_option maxRecDepth 100000
set_option maxHeartbeats 4000000
namespace Sb
open L2 (atI ixN)
/-! ### the operations 7 to 12, 14 -/
@[simp] theorem b_i3 (a b c : Int) : D.lst [.int a, .int b, .int c] = eInts [a, b, c] := id rfl
theorem ext_ints {i : Nat} {f : Sl → Option D} {sl : Sl} {acc l : List Int} (hf : f sl = some (eInts l)) (h : acc.length + l.length ≤ line) : sExtL i f ⟨sl, some (i, acc.map D.int)⟩ = some (.nx ⟨sl, some (i, (acc ++ l).map D.int)⟩) := by
  unfold sExtL
  simp only [hf, Option.bind_some, eInts]
  rw [if_pos ⟨trivial, by rw [List.length_map, List.length_map]; exact h⟩, List.map_append]
theorem ext_kd {i : Nat} {f : Sl → Option D} {sl : Sl} {acc : List Int} {k : Kd} (hf : f sl = some (eKd k)) (h : acc.length + 3 ≤ line) : sExtT i f ⟨sl, some (i, acc.map D.int)⟩ = some (.nx ⟨sl, some (i, (acc ++ tKd k).map D.int)⟩) := by
  have hk := tKd_len k
  unfold sExtT
  simp only [hf, Option.bind_some]
  rw [eKd_tup]
  simp only
  rw [if_pos ⟨trivial, by rw [List.length_map, List.length_map]; omega⟩, List.map_append]
theorem app_int {i : Nat} {f : Sl → Option D} {sl : Sl} {acc : List Int} {n : Int} (hf : f sl = some (.int n)) (h : acc.length < line) : sApp i f ⟨sl, some (i, acc.map D.int)⟩ = some (.nx ⟨sl, some (i, (acc ++ [n]).map D.int)⟩) := by
  rw [s_sApp, if_pos ⟨rfl, by rw [List.length_map]; exact h⟩, hf]
  simp
theorem object_loop (T A P F L : D) : ∀ (l : List Fld) (acc : List Int) (x : Option D), acc.length + 4 * l.length ≤ 1000 →
    ∃ x', forD [6] (tgN 6) (sExtL 5 (fCall 1 told_field_D (fCons (fVar 6) fNil))) (l.map eFld) ⟨[some T, some A, some P, some F, some L, none, x], some (5, acc.map D.int)⟩ = some (.nx ⟨[some T, some A, some P, some F, some L, none, x'], some (5, (acc ++ l.flatMap tFld).map D.int)⟩)
  | [], acc, x, h => ⟨x, by simp [forD_nil]⟩
  | f :: l, acc, x, h => by
    simp only [List.length_cons] at h
    obtain ⟨x', ih⟩ := object_loop T A P F L l (acc ++ tFld f) (some (eFld f)) (by simp [tFld]; omega)
    refine ⟨x', ?_⟩
    have e := ext_ints (i := 5) (f := fCall 1 told_field_D (fCons (fVar 6) fNil)) (sl := [some T, some A, some P, some F, some L, none, some (eFld f)]) (acc := acc) (l := tFld f) (by simp) (by simp [tFld, line]; omega)
    rw [List.map_cons, forD_step]
    simp only [s_tgN, List.set_cons_succ, List.set_cons_zero, Option.bind_some, s_own1, e]
    rw [if_pos (by decide)]
    simp only [ih, List.flatMap_cons, List.append_assoc]
def mTellObject (ts : List Thg) (a : Int) : List Int := if mThere ts a = false then [-2] else 0 :: (thAt ts a).proto :: ((thAt ts a).fields.length : Int) :: (thAt ts a).fields.flatMap tFld
theorem tell_object_eq (ts : List Thg) (a : Int) (h8 : ∀ t ∈ ts, t.fields.length ≤ 8) : tell_object_D [eThgs ts, .int a] = some (eInts (mTellObject ts a)) := by
  unfold tell_object_D mTellObject
  cases h2 : mThere ts a with
  | false => simp [g_tell_object, h2]
  | true =>
    obtain ⟨_, _, _, hm⟩ := there_get h2
    have h8' := h8 _ hm
    obtain ⟨x, e⟩ := object_loop (eThgs ts) (.int a) (.int (thAt ts a).proto) (eFlds (thAt ts a).fields) (eLay (thAt ts a).lay) (thAt ts a).fields [0, (thAt ts a).proto, ((thAt ts a).fields.length : Int)] none (by simp; omega)
    simp [g_tell_object, h2, ix_there h2]
    unfold sFor iTp
    simp
    have e' : forD [6] (tgN 6) (sExtL 5 (fCall 1 told_field_D (fCons (fVar 6) fNil))) ((thAt ts a).fields.map eFld) ⟨[some (eThgs ts), some (.int a), some (.int (thAt ts a).proto), some (eFlds (thAt ts a).fields), some (eLay (thAt ts a).lay), none, none], some (5, [.int 0, .int (thAt ts a).proto, .int ((thAt ts a).fields.length : Int)])⟩ = _ := e
    show outD ((match eFlds (thAt ts a).fields with | D.tup ds => some ds | _ => none).bind _ |>.bind _) = _
    simp only [eFlds, Option.bind_some]
    rw [show D.tup ((thAt ts a).fields.map eFld) = eFlds (thAt ts a).fields from rfl, e']
    simp [eInts]
theorem lay_len {n : Nat} {t : Thg} (ht : ThgV n t) : ∀ s, t.lay = some s → s.slots.length ≤ 8 := fun s hs => by
  have := ((ht.ly s hs).2).length
  have := ht.ln
  omega
theorem tLay_len {l : Option Shp} (h : ∀ s, l = some s → s.slots.length ≤ 8) : (tLay l).length ≤ 100 := by
  cases l with
  | none => simp [tLay]
  | some s =>
    have := tShp_len s
    have := h s rfl
    simp only [tLay, List.length_cons]
    omega
def mTellShape (ts : List Thg) (a : Int) : List Int := if mThere ts a = false then [-2] else 0 :: tLay (thAt ts a).lay
theorem tell_shape_eq {n : Nat} (ts : List Thg) (a : Int) (ht : ∀ t ∈ ts, ThgV n t) : tell_shape_D [eThgs ts, .int a] = some (eInts (mTellShape ts a)) := by
  unfold tell_shape_D mTellShape
  cases h2 : mThere ts a with
  | false => simp [g_tell_shape, h2]
  | true =>
    obtain ⟨_, _, _, hm⟩ := there_get h2
    have hl := lay_len (ht _ hm)
    have q := told_layout_eq (thAt ts a).lay fun s hs => by have := hl s hs; omega
    have hlen := tLay_len hl
    have ha : gAdd (eInts [0]) (eInts (tLay (thAt ts a).lay)) = some (eInts ([0] ++ tLay (thAt ts a).lay)) := add_ints (by simp only [List.length_cons, List.length_nil]; unfold line; omega)
    simp [g_tell_shape, h2, ix_there h2, q, ha]
def mTellSame (ts : List Thg) (a b : Int) : List Int := if mThere ts a = false ∨ mThere ts b = false then [-2] else if (thAt ts a).lay = none ∨ (thAt ts a).lay ≠ (thAt ts b).lay then [0, 0] else [0, 1]
theorem tell_same_eq (ts : List Thg) (a b : Int) : tell_same_shape_D [eThgs ts, .int a, .int b] = some (eInts (mTellSame ts a b)) := by
  unfold tell_same_shape_D mTellSame
  cases h1 : mThere ts a with
  | false => simp [g_tell_same_shape, h1]
  | true =>
    cases h2 : mThere ts b with
    | false => simp [g_tell_same_shape, h1, h2]
    | true =>
      cases c : (thAt ts a).lay with
      | none => simp [g_tell_same_shape, h1, h2, ix_there h1, ix_there h2, c]
      | some s =>
        have e : gNe (eShp s) (eLay (thAt ts b).lay) = _ := gNe_lay (some s) (thAt ts b).lay
        by_cases h3 : (thAt ts b).lay = some s
        · rw [h3] at e
          simp at e
          simp [g_tell_same_shape, h1, h2, ix_there h1, ix_there h2, c, e, h3]
        · have h3' : ¬ some s = (thAt ts b).lay := fun q => h3 q.symm
          simp [g_tell_same_shape, h1, h2, ix_there h1, ix_there h2, c, e, h3']
def mFindL (ts : List Thg) (n : Int) (k : Int) : List Int → List Int
  | [] => [0, 0, k]
  | h :: r => match mPlace (thAt ts h).fields n with
    | some i => [0, 1, k + 1, h, (i : Int), ((thAt ts h).fields.getD i ⟨0, 0, (0, 0)⟩).rd, ((thAt ts h).fields.getD i ⟨0, 0, (0, 0)⟩).val.1, ((thAt ts h).fields.getD i ⟨0, 0, (0, 0)⟩).val.2]
    | none => mFindL ts n (k + 1) r
theorem line_there {ts : List Thg} (hp : ∀ t ∈ ts, t.proto < ts.length) : ∀ (k : Nat) (a : Int), a < ts.length → ∀ h ∈ mLine ts k a, mThere ts h = true
  | 0, _, _, h, hh => by simp [mLine] at hh
  | k + 1, a, ha, h, hh => by
    unfold mLine at hh
    split at hh
    · rename_i h0
      have h1 : a.toNat < ts.length := by omega
      have h2 : ts[a.toNat]? = some ts[a.toNat] := by simp [h1]
      rw [h2] at hh
      rcases List.mem_cons.mp hh with e | hh
      · rw [e]
        unfold mThere
        simp
        omega
      · exact line_there hp k _ (hp _ (List.getElem_mem h1)) h hh
    · exact line_there hp k a ha h hh
abbrev gFindBody : SE → Option Out := sSeq (sAsg (f2 gAdd (fVar 3) (fC (.int 1))) [3] (tgN 3)) (sSeq (sAsg (f2 gIx (f2 gIx (fVar 0) (fVar 4)) (fC (.int 1))) [5] (tgN 5)) (sSeq (sAsg (fCall 2 field_place_D (fCons (fVar 5) (fCons (fVar 2) fNil))) [6] (tgN 6))
    (sIf (fT (f2 gGe (fVar 6) (fC (.int 0)))) (sSeq (sAsg (f2 gIx (f2 gIx (fVar 5) (fVar 6)) (fC (.int 1))) [7] (tgN 7)) (sSeq (sAsg (f2 gIx (f2 gIx (fVar 5) (fVar 6)) (fC (.int 2))) [8, 9] (tgT [8, 9]))
    (sRet (fLst (fCons (fC (.int 0)) (fCons (fC (.int 1)) (fCons (fVar 3) (fCons (fVar 4) (fCons (fVar 6) (fCons (fVar 7) (fCons (fVar 8) (fCons (fVar 9) fNil)))))))))))) sNext)))
theorem find_loop (ts : List Thg) (A : D) (n : Int) : ∀ (l : List Int) (k : Int) (x4 x5 x6 x7 x8 x9 : Option D), (∀ h ∈ l, mThere ts h = true) →
    (forD [4] (tgN 4) gFindBody (l.map D.int) ⟨[some (eThgs ts), some A, some (.int n), some (.int k), x4, x5, x6, x7, x8, x9], none⟩ = some (.rt (eInts (mFindL ts n k l)))) ∨
    (∃ k' y4 y5 y6 y7 y8 y9, forD [4] (tgN 4) gFindBody (l.map D.int) ⟨[some (eThgs ts), some A, some (.int n), some (.int k), x4, x5, x6, x7, x8, x9], none⟩ = some (.nx ⟨[some (eThgs ts), some A, some (.int n), some (.int k'), y4, y5, y6, y7, y8, y9], none⟩) ∧ mFindL ts n k l = [0, 0, k'])
  | [], k, x4, x5, x6, x7, x8, x9, _ => .inr ⟨k, x4, x5, x6, x7, x8, x9, rfl, rfl⟩
  | h :: l, k, x4, x5, x6, x7, x8, x9, hh => by
    have hx := ix_there (hh h List.mem_cons_self)
    rw [List.map_cons]
    cases c : mPlace (thAt ts h).fields n with
    | some i =>
      left
      rw [forD_step]
      have hi := place_lt c
      have h0 : (thAt ts h).fields[i]? = some (thAt ts h).fields[i] := by simp [hi]
      have hg : (thAt ts h).fields.getD i ⟨0, 0, (0, 0)⟩ = (thAt ts h).fields[i] := by simp [hi]
      simp [hx, c, optI, h0, mFindL, hg, eInts]
    | none =>
      have ih := find_loop ts A n l (k + 1) (some (.int h)) (some (eFlds (thAt ts h).fields)) (some (.int (-1))) x7 x8 x9 fun g hg => hh g (List.mem_cons_of_mem _ hg)
      have st : forD [4] (tgN 4) gFindBody (.int h :: l.map D.int) ⟨[some (eThgs ts), some A, some (.int n), some (.int k), x4, x5, x6, x7, x8, x9], none⟩ = forD [4] (tgN 4) gFindBody (l.map D.int) ⟨[some (eThgs ts), some A, some (.int n), some (.int (k + 1)), some (.int h), some (eFlds (thAt ts h).fields), some (.int (-1)), x7, x8, x9], none⟩ := by
        rw [forD_step]
        simp [hx, c, optI]
      have m : mFindL ts n k (h :: l) = mFindL ts n (k + 1) l := by simp [mFindL, c]
      rw [st, m]
      exact ih
def mTellFind (ts : List Thg) (a n : Int) : List Int := if mIsName n = false then [-1] else if mThere ts a = false then [-2] else mFindL ts n 0 (mLine ts ts.length a)
theorem tell_find_eq (ts : List Thg) (a n : Int) (hp : ∀ t ∈ ts, t.proto < ts.length) (hl : ts.length ≤ 40) : tell_find_D [eThgs ts, .int a, .int n] = some (eInts (mTellFind ts a n)) := by
  unfold tell_find_D mTellFind
  cases h1 : mIsName n with
  | false => simp [g_tell_find, h1]
  | true =>
    cases h2 : mThere ts a with
    | false => simp [g_tell_find, h1, h2]
    | true =>
      obtain ⟨ha1, ha2, _, _⟩ := there_get h2
      have ha : a < ts.length := by omega
      have hlf := line_from_eq ts a hp ha hl
      simp [g_tell_find, h1, h2]
      unfold sFor iLst
      simp [hlf]
      show outD ((match eInts (mLine ts ts.length a) with | D.lst ds => some ds | _ => none).bind _ |>.bind _) = _
      simp only [eInts, Option.bind_some]
      rcases find_loop ts (.int a) n (mLine ts ts.length a) 0 none none none none none none (line_there hp _ a ha) with e | ⟨k', y4, y5, y6, y7, y8, y9, e, e2⟩
      · rw [e]
        simp [eInts]
      · rw [e, e2]
        simp
def tSis (s : Sis) : List Int := tShp s.shape ++ (s.name :: s.rd :: tKd s.kind)
theorem tSis_len {s : Sis} (h : s.shape.slots.length ≤ 8) : (tSis s).length ≤ 50 := by
  have h1 := tShp_len s.shape
  have h2 := tKd_len s.kind
  unfold tSis
  rw [List.length_append]
  simp only [List.length_cons]
  omega
theorem sisters_loop (S : D) : ∀ (l : List Sis) (acc : List Int) (x y z u : Option D), (∀ s ∈ l, s.shape.slots.length ≤ 8) → acc.length + 50 * l.length ≤ 100000 →
    ∃ x' y' z' u', forD [2, 3, 4, 5] (tgT [2, 3, 4, 5]) (sSeq (sExtL 1 (fCall 1 told_shape_D (fCons (fVar 2) fNil))) (sSeq (sApp 1 (fVar 3)) (sSeq (sApp 1 (fVar 4)) (sExtT 1 (fVar 5))))) (l.map eSis) ⟨[some S, none, x, y, z, u], some (1, acc.map D.int)⟩ = some (.nx ⟨[some S, none, x', y', z', u'], some (1, (acc ++ l.flatMap tSis).map D.int)⟩)
  | [], acc, x, y, z, u, _, h => ⟨x, y, z, u, by simp [forD_nil]⟩
  | s :: l, acc, x, y, z, u, h8, h => by
    simp only [List.length_cons] at h
    have hs8 := h8 s List.mem_cons_self
    have hlen := tSis_len hs8
    have hsh := tShp_len s.shape
    obtain ⟨x', y', z', u', ih⟩ := sisters_loop S l (acc ++ tSis s) (some (eShp s.shape)) (some (.int s.name)) (some (.int s.rd)) (some (eKd s.kind)) (fun t ht => h8 t (List.mem_cons_of_mem _ ht)) (by rw [List.length_append]; omega)
    refine ⟨x', y', z', u', ?_⟩
    have hst := told_shape_eq s.shape (by omega)
    have e1 := ext_ints (i := 1) (f := fCall 1 told_shape_D (fCons (fVar 2) fNil)) (sl := [some S, none, some (eShp s.shape), some (.int s.name), some (.int s.rd), some (eKd s.kind)]) (acc := acc) (l := tShp s.shape) (by simp [hst]) (by unfold line; omega)
    have e2 := app_int (i := 1) (f := fVar 3) (sl := [some S, none, some (eShp s.shape), some (.int s.name), some (.int s.rd), some (eKd s.kind)]) (acc := acc ++ tShp s.shape) (n := s.name) rfl (by rw [List.length_append]; unfold line; omega)
    have e3 := app_int (i := 1) (f := fVar 4) (sl := [some S, none, some (eShp s.shape), some (.int s.name), some (.int s.rd), some (eKd s.kind)]) (acc := acc ++ tShp s.shape ++ [s.name]) (n := s.rd) rfl (by rw [List.length_append, List.length_append]; simp only [List.length_cons, List.length_nil]; unfold line; omega)
    have e4 := ext_kd (i := 1) (f := fVar 5) (sl := [some S, none, some (eShp s.shape), some (.int s.name), some (.int s.rd), some (eKd s.kind)]) (acc := acc ++ tShp s.shape ++ [s.name] ++ [s.rd]) (k := s.kind) rfl (by rw [List.length_append, List.length_append, List.length_append]; simp only [List.length_cons, List.length_nil]; unfold line; omega)
    have e5 : acc ++ tShp s.shape ++ [s.name] ++ [s.rd] ++ tKd s.kind = acc ++ tSis s := by simp [tSis]
    rw [List.map_cons, forD_step]
    simp only [tg_sis, List.set_cons_succ, List.set_cons_zero, Option.bind_some, s_own1, s_sSeq, e1, e2, e3, e4, e5]
    rw [if_pos (by decide)]
    simp only [Option.bind_some, ih, List.flatMap_cons, List.append_assoc]
def mTellSisters (ss : List Sis) : List Int := 0 :: (ss.length : Int) :: ss.flatMap tSis
theorem tell_sisters_eq (ss : List Sis) (hl : ss.length ≤ 60) (h8 : ∀ s ∈ ss, s.shape.slots.length ≤ 8) : tell_sisters_D [eSiss ss] = some (eInts (mTellSisters ss)) := by
  unfold tell_sisters_D mTellSisters
  obtain ⟨x, y, z, u, e⟩ := sisters_loop (eSiss ss) ss [0, (ss.length : Int)] none none none none h8 (by simp; omega)
  simp [g_tell_sisters]
  unfold sFor iTp
  simp
  have e' : forD [2, 3, 4, 5] (tgT [2, 3, 4, 5]) (sSeq (sExtL 1 (fCall 1 told_shape_D (fCons (fVar 2) fNil))) (sSeq (sApp 1 (fVar 3)) (sSeq (sApp 1 (fVar 4)) (sExtT 1 (fVar 5))))) (ss.map eSis) ⟨[some (eSiss ss), none, none, none, none, none], some (1, [.int 0, .int (ss.length : Int)])⟩ = _ := e
  show outD ((match eSiss ss with | D.tup ds => some ds | _ => none).bind _ |>.bind _) = _
  simp only [eSiss, Option.bind_some]
  rw [show D.tup (ss.map eSis) = eSiss ss from rfl, e']
  simp [eInts]
def mTellWould (st : Stt) (a : Int) (f : Fld) : List Int := if mPutRef st.1 a f < 0 then [mPutRef st.1 a f] else
  0 :: mOutcome (thAt st.1 a).lay (mWithField st.2 (thAt st.1 a) f).2.lay :: tLay (mWithField st.2 (thAt st.1 a) f).2.lay
theorem added_lay_len {ss : List Sis} {t : Thg} {n : Nat} {f : Fld} (ht : ThgV n t) (h : t.fields.length < 8) : ∀ s, (mAdded ss t.lay f).2 = some s → s.slots.length ≤ 8 := fun s hs => by
  obtain ⟨s0, x, e1, e2⟩ := added_slots hs
  have := ((ht.ly s0 e1).2).length
  rw [e2]
  simp only [List.length_append, List.length_cons, List.length_nil]
  omega
theorem replaced_lay_len {ss : List Sis} {t : Thg} {n i : Nat} {f : Fld} (ht : ThgV n t) : ∀ s, (mReplaced ss t.lay i f).2 = some s → s.slots.length ≤ 8 := fun s hs => by
  unfold mReplaced at hs
  split at hs
  · cases hs
  · rename_i s0 hs0
    have h8 := lay_len ht s0 hs0
    split at hs
    · rw [hs0] at hs
      cases hs
      exact h8
    · split at hs
      · cases hs
        simp only [List.length_set]
        exact h8
      · cases hs
        simp only [List.length_set]
        exact h8
theorem tell_would_eq (st : Stt) (a : Int) (f : Fld) (g : Good st) : tell_would_D [eThgs st.1, eSiss st.2, .int a, eFld f] = some (eInts (mTellWould st a f)) := by
  unfold tell_would_D mTellWould
  have hr := put_refusal_eq st.1 a f
  by_cases h : mPutRef st.1 a f < 0
  · simp [g_tell_would, hr, h]
  · obtain ⟨_, h2, _, h8, _⟩ := putRef_ok h
    obtain ⟨_, _, _, hm⟩ := there_get h2
    have hw := with_field_eq st.2 (thAt st.1 a) f g.sl g.si (g.th _ hm)
    have hl : ∀ s, (mWithField st.2 (thAt st.1 a) f).2.lay = some s → s.slots.length ≤ 8 := by
      unfold mWithField
      split
      · rename_i hp
        exact added_lay_len (g.th _ hm) (h8 hp)
      · exact replaced_lay_len (g.th _ hm)
    have q := told_layout_eq (mWithField st.2 (thAt st.1 a) f).2.lay fun s hs => by have := hl s hs; omega
    have hlen := tLay_len hl
    have ha : gAdd (eInts [0, mOutcome (thAt st.1 a).lay (mWithField st.2 (thAt st.1 a) f).2.lay]) (eInts (tLay (mWithField st.2 (thAt st.1 a) f).2.lay)) = some (eInts ([0, mOutcome (thAt st.1 a).lay (mWithField st.2 (thAt st.1 a) f).2.lay] ++ tLay (mWithField st.2 (thAt st.1 a) f).2.lay)) := add_ints (by simp only [List.length_cons, List.length_nil]; unfold line; omega)
    simp [g_tell_would, hr, h, ix_there h2, hw, outcome_eq, q, ha]
def mTotals (st : Stt) : List Int := [0, (st.1.length : Int), ((st.1.countP fun t => t.lay.isNone : Nat) : Int), ((mSeen [] (st.1.map Thg.lay)).length : Int), (st.2.length : Int)]
theorem loose_comp (sl : Sl) (f : Sl → Option D) (hf : ∀ d, f (sl.set 5 (some d)) = some d) (p : Sl → Option Bool) (hp : ∀ l : Option Shp, p (sl.set 5 (some (eLay l))) = some l.isNone) : ∀ l : List (Option Shp), compD (tgN 5) p f sl (l.map eLay) = some ((l.filter Option.isNone).map eLay)
  | [] => rfl
  | a :: l => by
    have ih := loose_comp sl f hf p hp l
    rw [List.map_cons]
    unfold compD
    simp only [s_tgN, Option.bind_some, hp, hf, ih, Option.map_some]
    cases a <;> simp
theorem tell_totals_eq (st : Stt) (g : Good st) : tell_totals_D [eThgs st.1, eSiss st.2] = some (eInts (mTotals st)) := by
  unfold tell_totals_D mTotals
  have h40 := g.tl
  have hc1 : fLc (iTp (fVar 0)) (tgN 4) fYes (f2 gIx (fVar 4) (fC (.int 2))) [4] [some (eThgs st.1), some (eSiss st.2), none, none, none, none] = some (.lst ((st.1.map Thg.lay).map eLay)) := by
    unfold fLc iTp
    simp only [s_fVar, List.getElem?_cons_succ, List.getElem?_cons_zero, Option.join_some, Option.bind_some]
    show (if (st.1.map eThg).length ≤ line then _ else _) = _
    rw [if_pos (by rw [List.length_map]; unfold line; omega)]
    show (compD _ _ _ _ (st.1.map eThg)).map D.lst = _
    rw [compD_map (h := fun t => eLay t.lay)]
    · simp
    · intro t ht
      simp [wipeS]
  have hc2 : fLc (iLst (fVar 2)) (tgN 5) (fT (f2 gIs (fVar 5) (fC .non))) (fVar 5) [5] [some (eThgs st.1), some (eSiss st.2), some (.lst ((st.1.map Thg.lay).map eLay)), none, none, none] = some (.lst (((st.1.map Thg.lay).filter Option.isNone).map eLay)) := by
    unfold fLc iLst
    simp only [s_fVar, List.getElem?_cons_succ, List.getElem?_cons_zero, Option.join_some, Option.bind_some]
    rw [if_pos (by rw [List.length_map, List.length_map]; unfold line; omega)]
    rw [loose_comp]
    · rfl
    · intro d
      simp [wipeS]
    · intro l
      simp [wipeS]
  have hh := how_many_eq (st.1.map Thg.lay) (by rw [List.length_map]; omega)
  simp only [runD2, g_tell_totals, s_sSeq, s_sAsg, s_sRet]
  rw [show List.replicate (6 - 2) (none : Option D) = [none, none, none, none] from rfl]
  simp only [hc1, Option.bind_some, s_tgN, List.set_cons_succ, List.set_cons_zero, s_own0, if_true, hc2, s_frz0]
  have hcount : (((st.1.map Thg.lay).filter Option.isNone).map eLay).length = st.1.countP fun t => t.lay.isNone := by
    rw [List.length_map, ← List.countP_eq_length_filter, List.countP_map]
    rfl
  have hl3 : gLen [.lst (((st.1.map Thg.lay).filter Option.isNone).map eLay)] = some (.int ((st.1.countP fun t => t.lay.isNone : Nat) : Int)) := by
    show some (D.int ((((st.1.map Thg.lay).filter Option.isNone).map eLay).length : Nat)) = _
    rw [hcount]
  simp only [s_fLst, s_fCons, s_fC, s_fB, s_fVar, s_fNil, s_fCall, List.getElem?_cons_succ, List.getElem?_cons_zero, Option.join_some, Option.bind_some, len_thgs, hl3, len_siss, hh, List.length_cons, List.length_nil]
  simp [eInts]
end Sb
end
section
set_option Elab.async false
set_option linter.all false
set_option maxRecDepth 100000
set_option maxHeartbeats 4000000
namespace Sb
open L2 (atI ixN)
/-! ### claims -/
def cAt (cl : List Int) (i : Nat) : Int := cl.getD i 0
def mHead (cl : List Int) (i : Nat) : Bool := decide (i + 1 < cl.length) && (decide (-1 ≤ cAt cl i ∧ cAt cl i ≤ 39) && decide (0 ≤ cAt cl (i + 1) ∧ cAt cl (i + 1) ≤ 8))
theorem ix0 {cl : List Int} {i : Nat} (h : i < cl.length) : gIx (eInts cl) (.int (i : Int)) = some (.int (cAt cl i)) := ix_intsN h
theorem ix1 {cl : List Int} {i : Nat} (h : i + 1 < cl.length) : gIx (eInts cl) (.int ((i : Int) + 1)) = some (.int (cAt cl (i + 1))) := ix_intsP (k := 1) h
theorem ix2 {cl : List Int} {i : Nat} (h : i + 2 < cl.length) : gIx (eInts cl) (.int ((i : Int) + 2)) = some (.int (cAt cl (i + 2))) := ix_intsP (k := 2) h
theorem is_head_eq (cl : List Int) (i : Nat) : is_head_D [eInts cl, .int (i : Int)] = some (.bl (mHead cl i)) := by
  unfold is_head_D mHead
  by_cases h : i + 1 < cl.length
  · have h' : (i : Int) + 1 < (cl.length : Int) := by omega
    have q0 := ix0 (cl := cl) (i := i) (by omega)
    have q1 := ix1 h
    rw [runD2]
    unfold g_is_head
    have c1 : f3 gLe gLe (f1 gNeg (fC (.int 1))) (f2 gIx (fVar 0) (fVar 1)) (fC (.int 39)) [some (eInts cl), some (.int (i : Int))] = some (.bl (decide (-1 ≤ cAt cl i ∧ cAt cl i ≤ 39))) := s_chain _ _ _ _ (-1) (cAt cl i) 39 (by simp) (by simp [q0]) (by simp)
    have c2 : f3 gLe gLe (fC (.int 0)) (f2 gIx (fVar 0) (f2 gAdd (fVar 1) (fC (.int 1)))) (fC (.int 8)) [some (eInts cl), some (.int (i : Int))] = some (.bl (decide (0 ≤ cAt cl (i + 1) ∧ cAt cl (i + 1) ≤ 8))) := s_chain _ _ _ _ 0 (cAt cl (i + 1)) 8 (by simp) (by simp [q1]) (by simp)
    simp only [s_sRet, s_frz0, s_fAndV, s_fT, c1, c2, show List.replicate (2 - 2) (none : Option D) = [] from rfl]
    by_cases h3 : -1 ≤ cAt cl i ∧ cAt cl i ≤ 39
    · simp [len_ints, h, h', h3]
    · simp [len_ints, h, h', h3]
  · have h' : ¬ (i : Int) + 1 < (cl.length : Int) := by omega
    simp [g_is_head, len_ints, h, h']
def kindEnd (cl : List Int) (i : Nat) : Option Nat := if i < cl.length ∧ 1 ≤ cAt cl i ∧ cAt cl i ≤ 6 then some (i + 1) else if i + 2 < cl.length ∧ cAt cl i = 0 ∧ mIsValue (cAt cl (i + 1), cAt cl (i + 2)) = true then some (i + 3) else none
theorem kind_end_eq (cl : List Int) (i : Nat) : kind_end_D [eInts cl, .int (i : Int)] = some (.int (optI (kindEnd cl i))) := by
  unfold kind_end_D kindEnd
  rw [runD2]
  unfold g_kind_end
  by_cases h : i < cl.length
  · have h' : (i : Int) < (cl.length : Int) := by omega
    have q0 := ix0 (cl := cl) (i := i) h
    have c1 : f3 gLe gLe (fC (.int 1)) (f2 gIx (fVar 0) (fVar 1)) (fC (.int 6)) [some (eInts cl), some (.int (i : Int))] = some (.bl (decide (1 ≤ cAt cl i ∧ cAt cl i ≤ 6))) := s_chain _ _ _ _ 1 (cAt cl i) 6 (by simp) (by simp [q0]) (by simp)
    by_cases h1 : 1 ≤ cAt cl i ∧ cAt cl i ≤ 6
    · simp only [s_sSeq, s_sIf, s_frz0, s_fAnd, s_fT, c1, show List.replicate (2 - 2) (none : Option D) = [] from rfl]
      simp [len_ints, h, h', h1, optI]
    · have h1' : ¬ (i < cl.length ∧ 1 ≤ cAt cl i ∧ cAt cl i ≤ 6) := fun q => h1 q.2
      simp only [s_sSeq, s_sIf, s_frz0, s_fAnd, s_fT, c1, show List.replicate (2 - 2) (none : Option D) = [] from rfl]
      rw [if_neg h1']
      by_cases h2 : i + 2 < cl.length
      · have h2' : (i : Int) + 2 < (cl.length : Int) := by omega
        have p1 := ix1 (cl := cl) (i := i) (by omega)
        have p2 := ix2 h2
        by_cases h3 : cAt cl i = 0
        · have q0' : gIx (eInts cl) (.int (i : Int)) = some (.int 0) := by rw [q0, h3]
          cases h4 : mIsValue (cAt cl (i + 1), cAt cl (i + 2)) with
          | true =>
            simp [len_ints, h', h1, h2, h2', q0', p1, p2, h3, h4, optI]
          | false =>
            simp [len_ints, h', h1, h2, h2', q0', p1, p2, h3, h4, optI]
        · simp [len_ints, h', h1, h2, h2', q0, p1, p2, h3, optI]
      · have h2' : ¬ (i : Int) + 2 < (cl.length : Int) := by omega
        simp [len_ints, h', h1, h2, h2', optI]
  · have h' : ¬ (i : Int) < (cl.length : Int) := by omega
    have h2 : ¬ i + 2 < cl.length := by omega
    have h2' : ¬ (i : Int) + 2 < (cl.length : Int) := by omega
    simp [len_ints, h, h', h2, h2', optI]
theorem kindEnd_le {cl : List Int} {i e : Nat} (h : kindEnd cl i = some e) : i < e ∧ e ≤ cl.length ∧ e ≤ i + 3 := by
  unfold kindEnd at h
  split at h
  · cases h; omega
  · split at h
    · cases h; omega
    · cases h
def slotEnd (cl : List Int) (i : Nat) : Option Nat := if cl.length ≤ i + 1 ∨ mIsName (cAt cl i) = false ∨ mBit (cAt cl (i + 1)) = false then none else match kindEnd cl (i + 2) with
  | none => none
  | some e => if cl.length ≤ e + 1 ∨ mIsValue (cAt cl e, cAt cl (e + 1)) = false then none else some (e + 2)
theorem slot_end_eq (cl : List Int) (i : Nat) : slot_end_D [eInts cl, .int (i : Int)] = some (.int (optI (slotEnd cl i))) := by
  unfold slot_end_D slotEnd
  by_cases h : cl.length ≤ i + 1
  · have h' : (cl.length : Int) ≤ (i : Int) + 1 := by omega
    simp [g_slot_end, len_ints, h, h', optI]
  · have h' : ¬ (cl.length : Int) ≤ (i : Int) + 1 := by omega
    have q0 := ix0 (cl := cl) (i := i) (by omega)
    have q1 := ix1 (cl := cl) (i := i) (by omega)
    cases h1 : mIsName (cAt cl i) with
    | false => simp only [runD2, g_slot_end, s_sSeq, s_sIf, s_frz0, s_fOr, s_fNot, s_fT]; simp [len_ints, h, h', q0, q1, h1, optI]
    | true =>
      cases h2 : mBit (cAt cl (i + 1)) with
      | false => simp only [runD2, g_slot_end, s_sSeq, s_sIf, s_frz0, s_fOr, s_fNot, s_fT]; simp [len_ints, h, h', q0, q1, h1, h2, optI]
      | true =>
        have k : kind_end_D [eInts cl, .int ((i : Int) + 2)] = some (.int (optI (kindEnd cl (i + 2)))) := kind_end_eq cl (i + 2)
        cases c : kindEnd cl (i + 2) with
        | none => simp only [runD2, g_slot_end, s_sSeq, s_sIf, s_frz0, s_fOr, s_fNot, s_fT]; simp [len_ints, h, h', q0, q1, h1, h2, k, c, optI]
        | some e =>
          have hn : ¬ ((e : Int) < 0) := by omega
          by_cases h3 : cl.length ≤ e + 1
          · have h3' : (cl.length : Int) ≤ (e : Int) + 1 := by omega
            simp only [runD2, g_slot_end, s_sSeq, s_sIf, s_frz0, s_fOr, s_fNot, s_fT]; simp [len_ints, h, h', q0, q1, h1, h2, k, c, optI, hn, h3, h3']
          · have h3' : ¬ (cl.length : Int) ≤ (e : Int) + 1 := by omega
            have p0 : gIx (eInts cl) (.int (e : Int)) = some (.int (cAt cl e)) := ix0 (by omega)
            have p1 := ix1 (cl := cl) (i := e) (by omega)
            cases h4 : mIsValue (cAt cl e, cAt cl (e + 1)) with
            | false => simp only [runD2, g_slot_end, s_sSeq, s_sIf, s_frz0, s_fOr, s_fNot, s_fT]; simp [len_ints, h, h', q0, q1, h1, h2, k, c, optI, hn, h3, h3', p0, p1, h4]
            | true => simp only [runD2, g_slot_end, s_sSeq, s_sIf, s_frz0, s_fOr, s_fNot, s_fT]; simp [len_ints, h, h', q0, q1, h1, h2, k, c, optI, hn, h3, h3', p0, p1, h4]
end Sb
end
section
set_option Elab.async false
set_option linter.all false
set_option maxRecDepth 100000
set_option maxHeartbeats 4000000
namespace Sb
open L2 (atI ixN)
def kindAt (cl : List Int) (i : Nat) : Kd := if 1 ≤ cAt cl i ∧ cAt cl i ≤ 6 then .knd (cAt cl i) else .cst (cAt cl (i + 1), cAt cl (i + 2))
theorem cAt_get {cl : List Int} {i : Nat} (h : i < cl.length) : cl[i]? = some (cAt cl i) := by
  unfold cAt
  simp [h]
theorem drop_cons {cl : List Int} {i : Nat} (h : i < cl.length) : cl.drop i = cAt cl i :: cl.drop (i + 1) := by
  have e : cl[i] = cAt cl i := by
    have := cAt_get h
    rw [List.getElem?_eq_getElem h] at this
    exact Option.some.inj this
  rw [List.drop_eq_getElem_cons h, e]
theorem kind_cut {cl : List Int} {i k : Nat} (h : kindEnd cl i = some k) : (cl.drop i).take (k - i) = tKd (kindAt cl i) ∧ KV (kindAt cl i) := by
  unfold kindEnd at h
  unfold kindAt
  by_cases h1 : i < cl.length ∧ 1 ≤ cAt cl i ∧ cAt cl i ≤ 6
  · rw [if_pos h1] at h
    cases h
    rw [if_pos h1.2, drop_cons h1.1, show i + 1 - i = 1 by omega]
    exact ⟨rfl, h1.2⟩
  · rw [if_neg h1] at h
    by_cases h2 : i + 2 < cl.length ∧ cAt cl i = 0 ∧ mIsValue (cAt cl (i + 1), cAt cl (i + 2)) = true
    · rw [if_pos h2] at h
      cases h
      rw [if_neg (by omega), drop_cons (by omega), drop_cons (by omega), drop_cons (by omega), show i + 3 - i = 3 by omega]
      exact ⟨by simp [tKd, h2.2.1], h2.2.2⟩
    · rw [if_neg h2] at h
      cases h
theorem slotEnd_of {cl : List Int} {i e : Nat} (h : slotEnd cl i = some e) : ∃ k, kindEnd cl (i + 2) = some k ∧ e = k + 2 ∧ k + 1 < cl.length ∧ i + 1 < cl.length ∧ mIsName (cAt cl i) = true ∧ mBit (cAt cl (i + 1)) = true ∧ mIsValue (cAt cl k, cAt cl (k + 1)) = true := by
  unfold slotEnd at h
  split at h
  · cases h
  · rename_i h1
    split at h
    · cases h
    · rename_i k hk
      split at h
      · cases h
      · rename_i h2
        cases h
        rw [not_or, not_or] at h1
        rw [not_or] at h2
        exact ⟨k, hk, rfl, by omega, by omega, by simpa using h1.2.1, by simpa using h1.2.2, by simpa using h2.2⟩
def slotAt (cl : List Int) (i : Nat) : Slt := ⟨cAt cl i, cAt cl (i + 1), kindAt cl (i + 2)⟩
def fieldAt (cl : List Int) (i e : Nat) : Fld := ⟨cAt cl i, cAt cl (i + 1), (cAt cl (e - 2), cAt cl (e - 1))⟩
theorem claimed_slot_eq {cl : List Int} {i e : Nat} (h : slotEnd cl i = some e) : claimed_slot_D [eInts cl, .int (i : Int), .int (e : Int)] = some (eSlt (slotAt cl i)) := by
  obtain ⟨k, hk, rfl, h1, h2, _⟩ := slotEnd_of h
  have hke := kindEnd_le hk
  unfold claimed_slot_D slotAt
  have q0 := ix0 (cl := cl) (i := i) (by omega)
  have q1 := ix1 (cl := cl) (i := i) (by omega)
  have hc : gSl (eInts cl) (some ((i : Int) + 2)) (some (((k + 2 : Nat) : Int) - 2)) = some (.lst ((tKd (kindAt cl (i + 2))).map D.int)) := by
    rw [show ((i : Int) + 2) = ((i + 2 : Nat) : Int) by omega, show (((k + 2 : Nat) : Int) - 2) = ((k : Nat) : Int) by omega]
    show some (D.lst (cutG (cl.map D.int) _ _)) = _
    rw [cutG_map, cut_mid cl (i + 2) k (by omega) (by omega), (kind_cut hk).1]
  have hc' : gSl (eInts cl) (some ((i : Int) + 2)) (some ((k : Int) + 2 - 2)) = some (.lst ((tKd (kindAt cl (i + 2))).map D.int)) := by
    rw [← hc]
    congr 2
  have ht : gTuple [.lst ((tKd (kindAt cl (i + 2))).map D.int)] = some (eKd (kindAt cl (i + 2))) := by
    rw [eKd_tup]
    rfl
  simp [g_claimed_slot, q0, q1]
  rw [show (k : Int) + 2 - 2 = (k : Int) by omega] at hc'
  simp [hc', ht]
theorem claimed_field_eq {cl : List Int} {i e : Nat} (h : slotEnd cl i = some e) : claimed_field_D [eInts cl, .int (i : Int), .int (e : Int)] = some (eFld (fieldAt cl i e)) := by
  obtain ⟨k, hk, rfl, h1, h2, _⟩ := slotEnd_of h
  unfold claimed_field_D fieldAt
  have q0 := ix0 (cl := cl) (i := i) (by omega)
  have q1 := ix1 (cl := cl) (i := i) (by omega)
  have p0 : gIx (eInts cl) (.int ((k : Int) + 2 - 2)) = some (.int (cAt cl k)) := by
    rw [show (k : Int) + 2 - 2 = (k : Int) by omega]
    exact ix0 (by omega)
  have p1 : gIx (eInts cl) (.int ((k : Int) + 2 - 1)) = some (.int (cAt cl (k + 1))) := by
    rw [show (k : Int) + 2 - 1 = (k : Int) + 1 by omega]
    exact ix1 (by omega)
  rw [show (k : Int) + 2 - 2 = (k : Int) by omega] at p0
  simp [g_claimed_field, q0, q1, p0, p1]
def mSlots (cl : List Int) : Nat → Nat → Option (Nat × List (Slt × Fld))
  | 0, i => some (i, [])
  | n + 1, i => match slotEnd cl i with
    | none => none
    | some e => (mSlots cl n e).map fun x => (x.1, (slotAt cl i, fieldAt cl i e) :: x.2)
theorem mSlots_len {cl : List Int} : ∀ {n i : Nat} {x : Nat × List (Slt × Fld)}, mSlots cl n i = some x → x.2.length = n
  | 0, _, _, h => by cases h; rfl
  | n + 1, i, x, h => by
    unfold mSlots at h
    split at h
    · cases h
    · rename_i e he
      cases c : mSlots cl n e with
      | none => rw [c] at h; cases h
      | some y =>
        rw [c] at h
        cases h
        simp [mSlots_len c]
theorem mSlots_kv {cl : List Int} : ∀ {n i : Nat} {x : Nat × List (Slt × Fld)}, mSlots cl n i = some x → ∀ y ∈ x.2, KV y.1.kind
  | 0, _, _, h, y, hy => by cases h; simp at hy
  | n + 1, i, x, h, y, hy => by
    unfold mSlots at h
    split at h
    · cases h
    · rename_i e he
      cases c : mSlots cl n e with
      | none => rw [c] at h; cases h
      | some z =>
        rw [c] at h
        cases h
        obtain ⟨k, hk, _⟩ := slotEnd_of he
        rcases List.mem_cons.mp hy with rfl | hy
        · exact (kind_cut hk).2
        · exact mSlots_kv c y hy
abbrev gSlotsBody : SE → Option Out := sSeq (sAsg (fVar 4) [6] (tgN 6)) (sSeq (sAsg (fCall 2 slot_end_D (fCons (fVar 0) (fCons (fVar 6) fNil))) [4] (tgN 4)) (sSeq (sIf (fT (f2 gLt (fVar 4) (fC (.int 0)))) (sRet (fTup (fCons (f1 gNeg (fC (.int 1))) (fCons (fC .non) fNil)))) sNext)
    (sSeq (sAsg (f2 gAdd (fVar 2) (fTup (fCons (fCall 3 claimed_field_D (fCons (fVar 0) (fCons (fVar 6) (fCons (fVar 4) fNil)))) fNil))) [2] (tgN 2))
    (sAsg (f2 gAdd (fVar 3) (fTup (fCons (fCall 3 claimed_slot_D (fCons (fVar 0) (fCons (fVar 6) (fCons (fVar 4) fNil)))) fNil))) [3] (tgN 3)))))
theorem slots_loop (cl : List Int) (A : D) : ∀ (items : List D) (i : Nat) (fs : List Fld) (ss : List Slt) (x y : Option D), fs.length + items.length ≤ 1000 → ss.length + items.length ≤ 1000 →
    (mSlots cl items.length i = none → forD [5] (tgN 5) gSlotsBody items ⟨[some (eInts cl), some A, some (eFlds fs), some (eSlts ss), some (.int (i : Int)), x, y], none⟩ = some (.rt (.tup [.int (-1), .non]))) ∧
    (∀ r, mSlots cl items.length i = some r → ∃ x' y', forD [5] (tgN 5) gSlotsBody items ⟨[some (eInts cl), some A, some (eFlds fs), some (eSlts ss), some (.int (i : Int)), x, y], none⟩ = some (.nx ⟨[some (eInts cl), some A, some (eFlds (fs ++ r.2.map Prod.snd)), some (eSlts (ss ++ r.2.map Prod.fst)), some (.int (r.1 : Int)), x', y'], none⟩))
  | [], i, fs, ss, x, y, _, _ => by
    refine ⟨fun h => by simp [mSlots] at h, fun r h => ⟨x, y, ?_⟩⟩
    have e : r = (i, []) := by simpa [mSlots] using h.symm
    rw [e]
    simp [forD_nil]
  | d :: items, i, fs, ss, x, y, h1, h2 => by
    simp only [List.length_cons] at h1 h2
    have q := slot_end_eq cl i
    cases c : slotEnd cl i with
    | none =>
      rw [c] at q
      refine ⟨fun _ => ?_, fun r h => by simp [mSlots, c] at h⟩
      rw [forD_step]
      simp [q, optI]
    | some e =>
      rw [c] at q
      have hn : ¬ ((e : Int) < 0) := by omega
      have e1 := claimed_field_eq c
      have e2 := claimed_slot_eq c
      have a1 := add_flds (a := fs) (b := [fieldAt cl i e]) (by simp [line]; omega)
      have a2 := add_slts (a := ss) (b := [slotAt cl i]) (by simp [line]; omega)
      have ih := slots_loop cl A items e (fs ++ [fieldAt cl i e]) (ss ++ [slotAt cl i]) (some d) (some (.int (i : Int))) (by simp; omega) (by simp; omega)
      have st : forD [5] (tgN 5) gSlotsBody (d :: items) ⟨[some (eInts cl), some A, some (eFlds fs), some (eSlts ss), some (.int (i : Int)), x, y], none⟩ = forD [5] (tgN 5) gSlotsBody items ⟨[some (eInts cl), some A, some (eFlds (fs ++ [fieldAt cl i e])), some (eSlts (ss ++ [slotAt cl i])), some (.int (e : Int)), some d, some (.int (i : Int))], none⟩ := by
        rw [forD_step]
        simp [q, optI, hn, e1, e2, a1, a2]
      rw [st]
      refine ⟨fun h => ih.1 ?_, fun r h => ?_⟩
      · simp only [List.length_cons, mSlots, c] at h
        cases c2 : mSlots cl items.length e with
        | none => rfl
        | some z => rw [c2] at h; cases h
      · simp only [List.length_cons, mSlots, c] at h
        cases c2 : mSlots cl items.length e with
        | none => rw [c2] at h; cases h
        | some z =>
          rw [c2] at h
          cases h
          obtain ⟨x', y', g⟩ := ih.2 z c2
          refine ⟨x', y', ?_⟩
          rw [g]
          simp
def mThing (cl : List Int) (i : Nat) : Option (Nat × Thg) := if mHead cl i = true then (mSlots cl (cAt cl (i + 1)).toNat (i + 2)).map fun x => (x.1, ⟨cAt cl i, x.2.map Prod.snd, some ⟨cAt cl i, x.2.map Prod.fst⟩⟩) else none
def eT : Option (Nat × Thg) → D
  | none => .tup [.int (-1), .non]
  | some x => .tup [.int (x.1 : Int), eThg x.2]
theorem claimed_thing_eq (cl : List Int) (i : Nat) : claimed_thing_D [eInts cl, .int (i : Int)] = some (eT (mThing cl i)) := by
  unfold claimed_thing_D mThing
  have hh := is_head_eq cl i
  cases c : mHead cl i with
  | false =>
    rw [c] at hh
    simp [g_claimed_thing, hh, eT]
  | true =>
    rw [c] at hh
    have c' := c
    unfold mHead at c'
    simp only [Bool.and_eq_true, decide_eq_true_eq] at c'
    obtain ⟨g1, g2, g3⟩ := c'
    have q0 := ix0 (cl := cl) (i := i) (by omega)
    have q1 := ix1 (cl := cl) (i := i) (by omega)
    have lp := slots_loop cl (.int (i : Int)) ((List.range (cAt cl (i + 1)).toNat).map fun j => D.int (j : Nat)) (i + 2) [] [] none none (by simp; omega) (by simp; omega)
    rw [List.length_map, List.length_range] at lp
    have lp1 : (mSlots cl (cAt cl (i + 1)).toNat (i + 2) = none → forD [5] (tgN 5) gSlotsBody ((List.range (cAt cl (i + 1)).toNat).map fun j => D.int (j : Nat)) ⟨[some (eInts cl), some (.int (i : Int)), some (.tup []), some (.tup []), some (.int ((i : Int) + 2)), none, none], none⟩ = some (.rt (.tup [.int (-1), .non]))) := lp.1
    have lp2 : (∀ r, mSlots cl (cAt cl (i + 1)).toNat (i + 2) = some r → ∃ x' y', forD [5] (tgN 5) gSlotsBody ((List.range (cAt cl (i + 1)).toNat).map fun j => D.int (j : Nat)) ⟨[some (eInts cl), some (.int (i : Int)), some (.tup []), some (.tup []), some (.int ((i : Int) + 2)), none, none], none⟩ = some (.nx ⟨[some (eInts cl), some (.int (i : Int)), some (eFlds ([] ++ r.2.map Prod.snd)), some (eSlts ([] ++ r.2.map Prod.fst)), some (.int (r.1 : Int)), x', y'], none⟩)) := lp.2
    have hr : (0 : Int) ≤ cAt cl (i + 1) ∧ cAt cl (i + 1) < 1000 := by omega
    simp [g_claimed_thing, hh]
    unfold sFor iR1
    simp [q1, hr]
    cases d : mSlots cl (cAt cl (i + 1)).toNat (i + 2) with
    | none =>
      have e := lp1 d
      simp only [gSlotsBody] at e
      simp [e, eT]
    | some r =>
      obtain ⟨x', y', e⟩ := lp2 r d
      simp only [gSlotsBody] at e
      simp [e, q0, eT]
def mThings (cl : List Int) : Nat → Nat → Option (Nat × List Thg)
  | 0, i => some (i, [])
  | n + 1, i => match mThing cl i with
    | none => none
    | some x => (mThings cl n x.1).map fun y => (y.1, x.2 :: y.2)
abbrev gThingsBody : SE → Option Out := sSeq (sAsg (fCall 2 claimed_thing_D (fCons (fVar 0) (fCons (fVar 3) fNil))) [3, 5] (tgT [3, 5])) (sSeq (sIf (fT (f2 gLt (fVar 3) (fC (.int 0)))) (sRet (fC .non)) sNext)
    (sAsg (f2 gAdd (fVar 2) (fTup (fCons (fVar 5) fNil))) [2] (tgN 2)))
theorem things_loop (cl : List Int) (A : D) : ∀ (items : List D) (i : Nat) (ts : List Thg) (x y : Option D), ts.length + items.length ≤ 1000 →
    (mThings cl items.length i = none → forD [4] (tgN 4) gThingsBody items ⟨[some (eInts cl), some A, some (eThgs ts), some (.int (i : Int)), x, y], none⟩ = some (.rt .non)) ∧
    (∀ r, mThings cl items.length i = some r → ∃ x' y', forD [4] (tgN 4) gThingsBody items ⟨[some (eInts cl), some A, some (eThgs ts), some (.int (i : Int)), x, y], none⟩ = some (.nx ⟨[some (eInts cl), some A, some (eThgs (ts ++ r.2)), some (.int (r.1 : Int)), x', y'], none⟩))
  | [], i, ts, x, y, _ => by
    refine ⟨fun h => by simp [mThings] at h, fun r h => ⟨x, y, ?_⟩⟩
    have e : r = (i, []) := by simpa [mThings] using h.symm
    rw [e]
    simp [forD_nil]
  | d :: items, i, ts, x, y, h1 => by
    simp only [List.length_cons] at h1
    have q := claimed_thing_eq cl i
    cases c : mThing cl i with
    | none =>
      rw [c] at q
      refine ⟨fun _ => ?_, fun r h => by simp [mThings, c] at h⟩
      rw [forD_step]
      simp [q, eT]
    | some e =>
      rw [c] at q
      have hn : ¬ ((e.1 : Int) < 0) := by omega
      have a1 := add_thgs (a := ts) (b := [e.2]) (by simp [line]; omega)
      have ih := things_loop cl A items e.1 (ts ++ [e.2]) (some d) (some (eThg e.2)) (by simp; omega)
      have st : forD [4] (tgN 4) gThingsBody (d :: items) ⟨[some (eInts cl), some A, some (eThgs ts), some (.int (i : Int)), x, y], none⟩ = forD [4] (tgN 4) gThingsBody items ⟨[some (eInts cl), some A, some (eThgs (ts ++ [e.2])), some (.int (e.1 : Int)), some d, some (eThg e.2)], none⟩ := by
        rw [forD_step]
        simp [q, eT, hn, a1]
      rw [st]
      refine ⟨fun h => ih.1 ?_, fun r h => ?_⟩
      · simp only [List.length_cons, mThings, c] at h
        cases c2 : mThings cl items.length e.1 with
        | none => rfl
        | some z => rw [c2] at h; cases h
      · simp only [List.length_cons, mThings, c] at h
        cases c2 : mThings cl items.length e.1 with
        | none => rw [c2] at h; cases h
        | some z =>
          rw [c2] at h
          cases h
          obtain ⟨x', y', g⟩ := ih.2 z c2
          refine ⟨x', y', ?_⟩
          rw [g]
          simp
def mClaim (cl : List Int) (n : Nat) : Option (List Thg) := match mThings cl n 0 with
  | none => none
  | some x => if x.1 < cl.length then none else some x.2
def eC : Option (List Thg) → D
  | none => .non
  | some l => eThgs l
theorem claimed_things_eq (cl : List Int) (n : Nat) (hn : n ≤ 40) : claimed_things_D [eInts cl, .int (n : Int)] = some (eC (mClaim cl n)) := by
  unfold claimed_things_D mClaim
  have lp := things_loop cl (.int (n : Int)) ((List.range n).map fun j => D.int (j : Nat)) 0 [] none none (by simp; omega)
  rw [List.length_map, List.length_range] at lp
  have lp1 : (mThings cl n 0 = none → forD [4] (tgN 4) gThingsBody ((List.range n).map fun j => D.int (j : Nat)) ⟨[some (eInts cl), some (.int (n : Int)), some (.tup []), some (.int 0), none, none], none⟩ = some (.rt .non)) := lp.1
  have lp2 : (∀ r, mThings cl n 0 = some r → ∃ x' y', forD [4] (tgN 4) gThingsBody ((List.range n).map fun j => D.int (j : Nat)) ⟨[some (eInts cl), some (.int (n : Int)), some (.tup []), some (.int 0), none, none], none⟩ = some (.nx ⟨[some (eInts cl), some (.int (n : Int)), some (eThgs ([] ++ r.2)), some (.int (r.1 : Int)), x', y'], none⟩)) := lp.2
  have hr : (n : Int) < 1000 := by omega
  simp [g_claimed_things]
  unfold sFor iR1
  simp [hr]
  cases d : mThings cl n 0 with
  | none =>
    have e := lp1 d
    simp only [gThingsBody] at e
    simp [e, eC]
  | some r =>
    obtain ⟨x', y', e⟩ := lp2 r d
    simp only [gThingsBody] at e
    by_cases h : r.1 < cl.length
    · have h' : (r.1 : Int) < (cl.length : Int) := by omega
      simp [e, len_ints, h, eC]
    · have h' : ¬ (r.1 : Int) < (cl.length : Int) := by omega
      simp [e, len_ints, h, eC]
end Sb
end
section
set_option Elab.async false
set_option linter.all false
set_option maxRecDepth 100000
set_option maxHeartbeats 4000000
namespace Sb
open L2 (atI ixN)
/-- a claimed object is read with a shape -/
structure Clm (c : Thg) : Prop where
  ex : ∃ s, c.lay = some s ∧ (∀ x ∈ s.slots, KV x.kind) ∧ s.slots.length ≤ 8
theorem mThing_ok {cl : List Int} {i : Nat} {x : Nat × Thg} (h : mThing cl i = some x) : Clm x.2 := by
  unfold mThing at h
  split at h
  · rename_i hh
    cases c : mSlots cl (cAt cl (i + 1)).toNat (i + 2) with
    | none => rw [c] at h; cases h
    | some y =>
      rw [c] at h
      cases h
      refine ⟨_, rfl, fun z hz => ?_, ?_⟩
      · obtain ⟨w, hw, rfl⟩ := List.mem_map.mp hz
        exact mSlots_kv c w hw
      · simp only [List.length_map]
        rw [mSlots_len c]
        unfold mHead at hh
        simp only [Bool.and_eq_true, decide_eq_true_eq] at hh
        omega
  · cases h
theorem mThings_ok {cl : List Int} : ∀ {n i : Nat} {x : Nat × List Thg}, mThings cl n i = some x → (∀ c ∈ x.2, Clm c) ∧ x.2.length = n
  | 0, _, _, h => by cases h; exact ⟨fun c hc => by simp at hc, rfl⟩
  | n + 1, i, x, h => by
    unfold mThings at h
    split at h
    · cases h
    · rename_i y hy
      cases c : mThings cl n y.1 with
      | none => rw [c] at h; cases h
      | some z =>
        rw [c] at h
        cases h
        obtain ⟨h1, h2⟩ := mThings_ok c
        refine ⟨fun d hd => ?_, by simp [h2]⟩
        rcases List.mem_cons.mp hd with rfl | hd
        · exact mThing_ok hy
        · exact h1 d hd
theorem mClaim_ok {cl : List Int} {n : Nat} {l : List Thg} (h : mClaim cl n = some l) : (∀ c ∈ l, Clm c) ∧ l.length = n := by
  unfold mClaim at h
  split at h
  · cases h
  · rename_i x hx
    split at h
    · cases h
    · cases h
      exact mThings_ok hx
def mFault (c t : Thg) : Int := if (match c.lay with | some s => mHasValues s.slots c.fields | none => true) = false ∨ mTwice c.fields = true then 1 else if c.proto ≠ t.proto ∨ c.fields ≠ t.fields then 2 else 0
theorem fault_of_eq (c t : Thg) (h : Clm c) : fault_of_D [eThg c, eThg t] = some (.int (mFault c t)) := by
  unfold fault_of_D mFault
  obtain ⟨p, fs, lay⟩ := c
  obtain ⟨tp, tf, tl⟩ := t
  obtain ⟨s, rfl, hk, hl⟩ := h.ex
  have hv := has_values_eq s fs (fun x hx => (hk x hx).ok) (by omega)
  cases h1 : mHasValues s.slots fs with
  | false => simp [g_fault_of, hv, h1]
  | true =>
    cases h2 : mTwice fs with
    | true => simp [g_fault_of, hv, h1, h2]
    | false =>
      by_cases h3 : p = tp
      · by_cases h4 : fs = tf
        · subst h3 h4
          simp [g_fault_of, hv, h1, h2]
        · simp [g_fault_of, hv, h1, h2, h3, h4]
      · simp [g_fault_of, hv, h1, h2, h3]
def mJudgeF (cs : List Thg) (k : Nat) : List Thg → Option (Nat × Int)
  | [] => none
  | t :: r => if 0 < mFault (cs.getD k t) t then some (k, mFault (cs.getD k t) t) else mJudgeF cs (k + 1) r
abbrev gJudgeBody : SE → Option Out := sSeq (sAsg (fCall 2 fault_of_D (fCons (f2 gIx (fVar 2) (fVar 3)) (fCons (fVar 4) fNil))) [5] (tgN 5)) (sIf (fT (f2 gGt (fVar 5) (fC (.int 0)))) (sRet (fLst (fCons (fC (.int 0)) (fCons (fC (.int 0)) (fCons (fVar 3) (fCons (fVar 5) fNil)))))) sNext)
theorem judge_loop (T C : D) (cs : List Thg) (hc : ∀ c ∈ cs, Clm c) : ∀ (l : List Thg) (k : Nat) (x y z u : Option D), k + l.length ≤ cs.length →
    (∀ i f, mJudgeF cs k l = some (i, f) → forD [3, 4] (tgT [3, 4]) gJudgeBody (numbered k (l.map eThg)) ⟨[some T, some C, some (eThgs cs), x, y, z, u], none⟩ = some (.rt (eInts [0, 0, (i : Int), f]))) ∧
    (mJudgeF cs k l = none → ∃ x' y' z', forD [3, 4] (tgT [3, 4]) gJudgeBody (numbered k (l.map eThg)) ⟨[some T, some C, some (eThgs cs), x, y, z, u], none⟩ = some (.nx ⟨[some T, some C, some (eThgs cs), x', y', z', u], none⟩))
  | [], k, x, y, z, u, _ => ⟨fun i f h => by simp [mJudgeF] at h, fun _ => ⟨x, y, z, rfl⟩⟩
  | t :: l, k, x, y, z, u, h => by
    simp only [List.length_cons] at h
    have hk : k < cs.length := by omega
    have h0 : cs[k]? = some cs[k] := by simp [hk]
    have hg : cs.getD k t = cs[k] := by simp [hk]
    have q := fault_of_eq cs[k] t (hc _ (List.getElem_mem hk))
    have ih := judge_loop T C cs hc l (k + 1) (some (.int (k : Int))) (some (eThg t)) (some (.int (mFault cs[k] t))) u (by omega)
    rw [List.map_cons, numbered_cons]
    by_cases hf : 0 < mFault cs[k] t
    · refine ⟨fun i f e => ?_, fun e => by simp [mJudgeF, hk, hf] at e⟩
      simp only [mJudgeF, hg, if_pos hf, Option.some.injEq, Prod.mk.injEq] at e
      obtain ⟨rfl, rfl⟩ := e
      rw [forD_step]
      simp [hk, q, hf, eInts]
    · have st : forD [3, 4] (tgT [3, 4]) gJudgeBody (.tup [.int (k : Nat), eThg t] :: numbered (k + 1) (l.map eThg)) ⟨[some T, some C, some (eThgs cs), x, y, z, u], none⟩ = forD [3, 4] (tgT [3, 4]) gJudgeBody (numbered (k + 1) (l.map eThg)) ⟨[some T, some C, some (eThgs cs), some (.int (k : Int)), some (eThg t), some (.int (mFault cs[k] t)), u], none⟩ := by
        rw [forD_step]
        simp [hk, q, hf]
      rw [st]
      have m : mJudgeF cs k (t :: l) = mJudgeF cs (k + 1) l := by simp only [mJudgeF, hg, if_neg hf]
      rw [m]
      exact ih
def mJudge (ts : List Thg) (cl : List Int) : List Int := match mClaim cl ts.length with
  | none => [-1]
  | some cs => match mJudgeF cs 0 ts with
    | some x => [0, 0, (x.1 : Int), x.2]
    | none => [0, 1, ((mSeen [] (cs.map Thg.lay)).length : Int)]
theorem is_thgs (l : List Thg) : gIs (eThgs l) .non = some (.bl false) := rfl
theorem judge_eq (ts : List Thg) (cl : List Int) (hl : ts.length ≤ 40) : judge_D [eThgs ts, eInts cl] = some (eInts (mJudge ts cl)) := by
  unfold judge_D mJudge
  have hct := claimed_things_eq cl ts.length hl
  cases c : mClaim cl ts.length with
  | none =>
    rw [c] at hct
    simp [g_judge, hct, eC]
  | some cs =>
    rw [c] at hct
    obtain ⟨h1, h2⟩ := mClaim_ok c
    have lp := judge_loop (eThgs ts) (eInts cl) cs h1 ts 0 none none none none (by omega)
    have hh := how_many_eq (cs.map Thg.lay) (by rw [List.length_map]; omega)
    have hc1 : ∀ x y z : Option D, fLc (iTp (fVar 2)) (tgN 6) fYes (f2 gIx (fVar 6) (fC (.int 2))) [6] [some (eThgs ts), some (eInts cl), some (eThgs cs), x, y, z, none] = some (.lst ((cs.map Thg.lay).map eLay)) := by
      intro x y z
      unfold fLc iTp
      simp only [s_fVar, List.getElem?_cons_succ, List.getElem?_cons_zero, Option.join_some, Option.bind_some]
      show (if (cs.map eThg).length ≤ line then _ else _) = _
      rw [if_pos (by rw [List.length_map]; unfold line; omega)]
      show (compD _ _ _ _ (cs.map eThg)).map D.lst = _
      rw [compD_map (h := fun t => eLay t.lay)]
      · simp
      · intro t ht
        simp [wipeS]
    have hen : iEn (fCons (fVar 0) fNil) [some (eThgs ts), some (eInts cl), some (eThgs cs), none, none, none, none] = some (numbered 0 (ts.map eThg)) := iEn_of _ _ _ rfl
    simp [g_judge, hct, eC, is_thgs]
    unfold sFor
    simp only [hen, Option.bind_some]
    cases d : mJudgeF cs 0 ts with
    | some x =>
      have e := lp.1 x.1 x.2 d
      simp only [gJudgeBody] at e
      simp [e]
    | none =>
      obtain ⟨x', y', z', e⟩ := lp.2 d
      simp only [gJudgeBody] at e
      rw [List.map_map] at hh
      simp [e, hc1, hh]

/-! ### calls -/
theorem ints_at {l : List Int} {i : Nat} {v : Int} (h : l[i]? = some v) : gIx (eInts l) (.int (i : Int)) = some (.int v) := by
  rw [ix_ints, h]
  rfl
theorem ints_from (l : List Int) (i : Nat) : gSl (eInts l) (some (i : Int)) none = some (eInts (l.drop i)) := by
  show some (D.lst (cutG (l.map D.int) (some (i : Int)) none)) = _
  rw [cut_drop, ← List.map_drop]
  rfl
/-- a call as it stands in the list -/
def flat : List (List Int) → List Int
  | [] => []
  | x :: rows => x ++ rows.flatMap fun r => (r.length : Int) :: r
/-- the mirror of a call -/
def mStep (st : Stt) : List (List Int) → Stt × List Int
  | [[0, p], l] => mMake st p l
  | [[1, a, w, r, k, c]] => mPut st a ⟨w, r, (k, c)⟩
  | [[2, a, w]] => mTake st a w
  | [[3, a, p]] => mLink st a p
  | [[4, a]] => mLoosen st a
  | [[5, a]] => mSettle st a
  | [[6]] => mCatch st
  | [[7, a]] => (st, mTellObject st.1 a)
  | [[8, a]] => (st, mTellShape st.1 a)
  | [[9, a, b]] => (st, mTellSame st.1 a b)
  | [[10, a, w]] => (st, mTellFind st.1 a w)
  | [[11]] => (st, mTellSisters st.2)
  | [[12, a, w, r, k, c]] => (st, mTellWould st a ⟨w, r, (k, c)⟩)
  | [[13], l] => (st, mJudge st.1 l)
  | [[14]] => (st, mTotals st)
  | _ => (st, [])
/-- the calls that there are -/
inductive Call : List (List Int) → Prop
  | make (p : Int) (l : List Int) : l.length ≤ 700 → Call [[0, p], l]
  | put (a w r k c : Int) : Call [[1, a, w, r, k, c]]
  | take (a w : Int) : Call [[2, a, w]]
  | link (a p : Int) : Call [[3, a, p]]
  | loosen (a : Int) : Call [[4, a]]
  | settle (a : Int) : Call [[5, a]]
  | catchUp : Call [[6]]
  | object (a : Int) : Call [[7, a]]
  | shape (a : Int) : Call [[8, a]]
  | same (a b : Int) : Call [[9, a, b]]
  | find (a w : Int) : Call [[10, a, w]]
  | sisters : Call [[11]]
  | would (a w r k c : Int) : Call [[12, a, w, r, k, c]]
  | judge (l : List Int) : l.length ≤ 700 → Call [[13], l]
  | totals : Call [[14]]
theorem at2 (x a w r k c : Int) : field_at_D [eInts [x, a, w, r, k, c], .int 2] = some (eFld ⟨w, r, (k, c)⟩) := field_at_eq (ns := [x, a, w, r, k, c]) (i := 2) (by simp)
theorem ixL0 (a : Int) (l : List Int) : gIx (eInts (a :: l)) (.int 0) = some (.int a) := ints_at (i := 0) rfl
theorem ixL1 (a b : Int) (l : List Int) : gIx (eInts (a :: b :: l)) (.int 1) = some (.int b) := ints_at (i := 1) rfl
theorem ixL2 (a b c : Int) (l : List Int) : gIx (eInts (a :: b :: c :: l)) (.int 2) = some (.int c) := ints_at (i := 2) rfl
theorem fromL2 (a b : Int) (l : List Int) : gSl (eInts (a :: b :: l)) (some 2) none = some (eInts l) := ints_from (a :: b :: l) 2
theorem fromL3 (a b c : Int) (l : List Int) : gSl (eInts (a :: b :: c :: l)) (some 3) none = some (eInts l) := ints_from (a :: b :: c :: l) 3
theorem carried_out_eq {st : Stt} {c : List (List Int)} (g : Good st) (h : Call c) : carried_out_D [eS st, eInts (flat c)] = some (eR (mStep st c)) := by
  unfold carried_out_D
  have hp : ∀ t ∈ st.1, t.proto < st.1.length := fun t ht => ((g.th t ht).pr).2
  have h8 : ∀ t ∈ st.1, t.fields.length ≤ 8 := fun t ht => (g.th t ht).ln
  cases h with
  | make p l hl =>
    have e : ordered_D [eS st, eInts (0 :: p :: (l.length : Int) :: l)] = some (eR (mMake st p l)) := by
      unfold ordered_D
      simp [g_ordered, ixL0, ixL1, fromL3, make_eq st p l g hl]
    simp [g_carried_out, flat, ixL0, e, mStep]
  | put a w r k c =>
    have e : ordered_D [eS st, eInts [1, a, w, r, k, c]] = some (eR (mPut st a ⟨w, r, (k, c)⟩)) := by
      unfold ordered_D
      simp [g_ordered, ixL0, ixL1, at2, put_eq st a _ g]
    simp [g_carried_out, flat, ixL0, e, mStep]
  | take a w =>
    have e : ordered_D [eS st, eInts [2, a, w]] = some (eR (mTake st a w)) := by
      unfold ordered_D
      simp [g_ordered, ixL0, ixL1, ixL2, take_out_eq st a w g]
    simp [g_carried_out, flat, ixL0, e, mStep]
  | link a p =>
    have e : ordered_D [eS st, eInts [3, a, p]] = some (eR (mLink st a p)) := by
      unfold ordered_D
      simp [g_ordered, ixL0, ixL1, ixL2, link_eq st a p g]
    simp [g_carried_out, flat, ixL0, e, mStep]
  | loosen a =>
    have e : ordered_D [eS st, eInts [4, a]] = some (eR (mLoosen st a)) := by
      unfold ordered_D
      simp [g_ordered, ixL0, ixL1, loosen_eq st a g]
    simp [g_carried_out, flat, ixL0, e, mStep]
  | settle a =>
    have e : ordered_D [eS st, eInts [5, a]] = some (eR (mSettle st a)) := by
      unfold ordered_D
      simp [g_ordered, ixL0, ixL1, settle_eq st a g]
    simp [g_carried_out, flat, ixL0, e, mStep]
  | catchUp =>
    have e : ordered_D [eS st, eInts [6]] = some (eR (mCatch st)) := by
      unfold ordered_D
      simp [g_ordered, ixL0, catch_up_eq st g]
    simp [g_carried_out, flat, ixL0, e, mStep]
  | object a =>
    have e : told_D [eS st, eInts [7, a]] = some (eInts (mTellObject st.1 a)) := by
      unfold told_D
      simp [g_told, ixL0, ixL1, tell_object_eq st.1 a h8]
    simp [g_carried_out, flat, ixL0, e, mStep]
  | shape a =>
    have e : told_D [eS st, eInts [8, a]] = some (eInts (mTellShape st.1 a)) := by
      unfold told_D
      simp [g_told, ixL0, ixL1, tell_shape_eq st.1 a g.th]
    simp [g_carried_out, flat, ixL0, e, mStep]
  | same a b =>
    have e : told_D [eS st, eInts [9, a, b]] = some (eInts (mTellSame st.1 a b)) := by
      unfold told_D
      simp [g_told, ixL0, ixL1, ixL2, tell_same_eq st.1 a b]
    simp [g_carried_out, flat, ixL0, e, mStep]
  | find a w =>
    have e : told_D [eS st, eInts [10, a, w]] = some (eInts (mTellFind st.1 a w)) := by
      unfold told_D
      simp [g_told, ixL0, ixL1, ixL2, tell_find_eq st.1 a w hp g.tl]
    simp [g_carried_out, flat, ixL0, e, mStep]
  | sisters =>
    have e : told_D [eS st, eInts [11]] = some (eInts (mTellSisters st.2)) := by
      unfold told_D
      simp [g_told, ixL0, tell_sisters_eq st.2 g.sl fun s hs => ((g.si s hs).sh).ln]
    simp [g_carried_out, flat, ixL0, e, mStep]
  | would a w r k c =>
    have e : told_D [eS st, eInts [12, a, w, r, k, c]] = some (eInts (mTellWould st a ⟨w, r, (k, c)⟩)) := by
      unfold told_D
      simp [g_told, ixL0, ixL1, at2, tell_would_eq st a _ g]
    simp [g_carried_out, flat, ixL0, e, mStep]
  | judge l hl =>
    have e : told_D [eS st, eInts (13 :: (l.length : Int) :: l)] = some (eInts (mJudge st.1 l)) := by
      unfold told_D
      simp [g_told, ixL0, fromL2, judge_eq st.1 l g.tl]
    simp [g_carried_out, flat, ixL0, e, mStep]
  | totals =>
    have e : told_D [eS st, eInts [14]] = some (eInts (mTotals st)) := by
      unfold told_D
      simp [g_told, ixL0, tell_totals_eq st g]
    simp [g_carried_out, flat, ixL0, e, mStep]
end Sb
end
section
set_option Elab.async false
set_option linter.all false
set_option maxRecDepth 100000
set_option maxHeartbeats 4000000
namespace Sb
open L2 (atI ixN)
theorem ix_inp (ns : List Int) (i : Nat) : gIx (.inp ns) (.int (i : Int)) = (ns[i]?).map D.int := by
  show (atI ns (i : Int)).map D.int = _
  rw [atI_n]
theorem inp_at {ns : List Int} {i j : Nat} {l : List Int} (h : ns.drop i = l) {v : Int} (hv : l[j]? = some v) : gIx (.inp ns) (.int ((i : Int) + (j : Int))) = some (.int v) := by
  rw [show ((i : Int) + (j : Int)) = ((i + j : Nat) : Int) by omega, ix_inp]
  have q : ns[i + j]? = some v := by
    rw [← h, List.getElem?_drop] at hv
    exact hv
  rw [q]
  rfl
theorem inp_at0 {ns : List Int} {i : Nat} {l : List Int} (h : ns.drop i = l) {v : Int} (hv : l[0]? = some v) : gIx (.inp ns) (.int (i : Int)) = some (.int v) := by
  have q := inp_at h hv
  rw [show ((i : Int) + ((0 : Nat) : Int)) = (i : Int) by omega] at q
  exact q
abbrev ahead : List Int := [3, 6, 3, 3, 2, 2, 1, 2, 2, 3, 3, 1, 6, 2, 1]
theorem ahead_at {k : Nat} {v : Int} (h : ahead[k]? = some v) : gIx (.tup (ahead.map D.int)) (.int (k : Int)) = some (.int v) := by
  rw [ix_map, h]
  rfl
theorem call_size_plain {ns : List Int} {i k : Nat} {l : List Int} {v : Int} (h : ns.drop i = l) (h0 : l[0]? = some (k : Int)) (hk : ¬ k = 0) (hk13 : ¬ k = 13) (ha : ahead[k]? = some v) : call_size_D [.inp ns, .int (i : Int)] = some (.int v) := by
  unfold call_size_D
  have q0 := inp_at0 h h0
  have qa := ahead_at ha
  have e0 : ¬ (k : Int) = 0 := by omega
  have e13 : ¬ (k : Int) = 13 := by omega
  simp only [runD2, g_call_size, s_sSeq, s_sAsg, s_f2, s_fC, s_fVar, List.getElem?_cons_succ, List.getElem?_cons_zero, Option.join_some, Option.bind_some, q0, qa]
  simp [q0, e0, e13, hk, hk13]
theorem call_size_list {ns : List Int} {i k : Nat} {l : List Int} {v n : Int} {s : Nat} (h : ns.drop i = l) (h0 : l[0]? = some (k : Int)) (hk : k = 0 ∨ k = 13) (ha : ahead[k]? = some v) (hs : v = (s : Int) + 1) (hn : l[s]? = some n) : call_size_D [.inp ns, .int (i : Int)] = some (.int (v + n)) := by
  unfold call_size_D
  have q0 := inp_at0 h h0
  have qa := ahead_at ha
  have qn := inp_at h hn
  have e : (i : Int) + v - 1 = (i : Int) + (s : Int) := by omega
  simp only [runD2, g_call_size, s_sSeq, s_sAsg, s_f2, s_fC, s_fVar, List.getElem?_cons_succ, List.getElem?_cons_zero, Option.join_some, Option.bind_some, q0, qa]
  rcases hk with rfl | rfl
  · simp [q0, e, qn]
  · have e0 : ¬ ((13 : Nat) : Int) = 0 := by omega
    simp [q0, e, qn]
theorem call_size_eq {ns rest : List Int} {i : Nat} {c : List (List Int)} (hc : Call c) (h : ns.drop i = flat c ++ rest) : call_size_D [.inp ns, .int (i : Int)] = some (.int ((flat c).length : Int)) := by
  cases hc with
  | make p l hl =>
    rw [call_size_list (k := 0) (v := 3) (n := (l.length : Int)) (s := 2) h rfl (.inl rfl) rfl rfl (by simp [flat])]
    simp [flat]
    omega
  | put a w r k c => exact call_size_plain (k := 1) h rfl (by decide) (by decide) rfl
  | take a w => exact call_size_plain (k := 2) h rfl (by decide) (by decide) rfl
  | link a p => exact call_size_plain (k := 3) h rfl (by decide) (by decide) rfl
  | loosen a => exact call_size_plain (k := 4) h rfl (by decide) (by decide) rfl
  | settle a => exact call_size_plain (k := 5) h rfl (by decide) (by decide) rfl
  | catchUp => exact call_size_plain (k := 6) h rfl (by decide) (by decide) rfl
  | object a => exact call_size_plain (k := 7) h rfl (by decide) (by decide) rfl
  | shape a => exact call_size_plain (k := 8) h rfl (by decide) (by decide) rfl
  | same a b => exact call_size_plain (k := 9) h rfl (by decide) (by decide) rfl
  | find a w => exact call_size_plain (k := 10) h rfl (by decide) (by decide) rfl
  | sisters => exact call_size_plain (k := 11) h rfl (by decide) (by decide) rfl
  | would a w r k c => exact call_size_plain (k := 12) h rfl (by decide) (by decide) rfl
  | judge l hl =>
    rw [call_size_list (k := 13) (v := 2) (n := (l.length : Int)) (s := 1) h rfl (.inr rfl) rfl rfl (by simp [flat])]
    simp [flat]
    omega
  | totals => exact call_size_plain (k := 14) h rfl (by decide) (by decide) rfl
theorem flat_pos {c : List (List Int)} (hc : Call c) : 0 < (flat c).length := by cases hc <;> simp [flat]
abbrev gAnsTest : Sl → Option Bool := fT (f2 gGt (fVar 3) (fC (.int 0)))
abbrev gAnsBody : SE → Option Out := sSeq (sAsg (f2 gSub (fB gLen (fCons (fVar 0) fNil)) (fVar 3)) [4] (tgN 4))
    (sSeq (sAsg (fCall 2 call_size_D (fCons (fVar 0) (fCons (fVar 4) fNil))) [5] (tgN 5))
    (sSeq (sAsg (fCall 2 carried_out_D (fCons (fVar 2) (fCons (fSl (fVar 0) (pSome (fVar 4)) (pSome (f2 gAdd (fVar 4) (fVar 5)))) fNil))) [2, 6] (tgT [2, 6]))
    (sSeq (sApp 1 (fB gLen (fCons (fVar 6) fNil)))
    (sSeq (sExtL 1 (fVar 6))
    (sAsg (f2 gSub (fVar 3) (fVar 5)) [3] (tgN 3))))))
theorem len_inp (ns : List Int) : gLen [.inp ns] = some (.int (ns.length : Int)) := rfl
theorem ans_body {ns pre rest acc : List Int} {c : List (List Int)} {st : Stt} {x y z : Option D} (hn : ns = pre ++ (flat c ++ rest)) (g : Good st) (hc : Call c) (hl : acc.length + (1 + (mStep st c).2.length) ≤ line) :
    gAnsBody ⟨[some (.inp ns), none, some (eS st), some (.int ((flat c ++ rest).length : Int)), x, y, z], some (1, acc.map D.int)⟩
      = some (.nx ⟨[some (.inp ns), none, some (eS (mStep st c).1), some (.int (rest.length : Int)), some (.int (pre.length : Int)), some (.int ((flat c).length : Int)), some (eInts (mStep st c).2)], some (1, (acc ++ (((mStep st c).2.length : Int) :: (mStep st c).2)).map D.int)⟩) := by
  have hd : ns.drop pre.length = flat c ++ rest := by rw [hn]; simp
  have q1 := call_size_eq hc hd
  have q2 := carried_out_eq g hc
  have e1 : (ns.length : Int) - ((flat c ++ rest).length : Int) = (pre.length : Int) := by rw [hn]; simp
  have e2 : ((flat c ++ rest).length : Int) - ((flat c).length : Int) = (rest.length : Int) := by rw [List.length_append]; omega
  have q3 : gSl (.inp ns) (some (pre.length : Int)) (some ((pre.length : Int) + ((flat c).length : Int))) = some (eInts (flat c)) := by
    show some (D.lst ((cutG ns _ _).map D.int)) = _
    rw [show (pre.length : Int) + ((flat c).length : Int) = ((pre.length + (flat c).length : Nat) : Int) by omega]
    rw [cut_mid ns pre.length (pre.length + (flat c).length) (by omega) (by rw [hn]; simp), hd, show pre.length + (flat c).length - pre.length = (flat c).length by omega]
    simp [eInts]
  have a1 := app_int (i := 1) (f := fB gLen (fCons (fVar 6) fNil)) (sl := [some (.inp ns), none, some (eS (mStep st c).1), some (.int ((flat c ++ rest).length : Int)), some (.int (pre.length : Int)), some (.int ((flat c).length : Int)), some (eInts (mStep st c).2)]) (acc := acc) (n := ((mStep st c).2.length : Int)) (by simp [len_ints]) (by omega)
  have a2 := ext_ints (i := 1) (f := fVar 6) (sl := [some (.inp ns), none, some (eS (mStep st c).1), some (.int ((flat c ++ rest).length : Int)), some (.int (pre.length : Int)), some (.int ((flat c).length : Int)), some (eInts (mStep st c).2)]) (acc := acc ++ [((mStep st c).2.length : Int)]) (l := (mStep st c).2) rfl (by rw [List.length_append]; simp only [List.length_cons, List.length_nil]; omega)
  unfold gAnsBody
  simp only [s_sSeq, s_sAsg, s_f2, s_fB, s_fCons, s_fNil, s_fVar, s_fCall, s_fSl, s_pSome, List.getElem?_cons_succ, List.getElem?_cons_zero, Option.join_some, Option.bind_some, len_inp, s_gSubI, e1, s_tgN, List.set_cons_succ, List.set_cons_zero, s_own1,
    show (!([4] : List Nat).contains 1) = true from rfl, show (!([5] : List Nat).contains 1) = true from rfl, show (!([2, 6] : List Nat).contains 1) = true from rfl, show (!([3] : List Nat).contains 1) = true from rfl, if_true, List.length_cons, List.length_nil, Nat.zero_add, Nat.reduceAdd, q1, s_gAddI, q3, q2, tg_r, a1, a2, e2]
  simp
theorem ans_loop {ns : List Int} (hG : ∀ st c, Good st → Call c → Good (mStep st c).1) : ∀ (cs : List (List (List Int))) (st : Stt) (pre acc : List Int) (k : Nat) (x y z : Option D), Good st → (∀ c ∈ cs, Call c) → ns = pre ++ cs.flatMap flat → cs.length < k → acc.length + (PyFlat.told (PyFlat.played mStep st cs)).length ≤ line →
    ∃ st' x' y' z', whileD gAnsTest gAnsBody k ⟨[some (.inp ns), none, some (eS st), some (.int ((cs.flatMap flat).length : Int)), x, y, z], some (1, acc.map D.int)⟩
      = some (.nx ⟨[some (.inp ns), none, some (eS st'), some (.int 0), x', y', z'], some (1, (acc ++ PyFlat.told (PyFlat.played mStep st cs)).map D.int)⟩)
  | [], st, pre, acc, k, x, y, z, g, hc, hn, hk, hl => by
    refine ⟨st, x, y, z, ?_⟩
    cases k with
    | zero => simp at hk
    | succ k =>
      unfold whileD
      simp [PyFlat.played, PyFlat.told]
  | c :: cs, st, pre, acc, k, x, y, z, g, hc, hn, hk, hl => by
    cases k with
    | zero => simp at hk
    | succ k =>
      have hcc := hc c List.mem_cons_self
      have hpos := flat_pos hcc
      simp only [List.flatMap_cons] at hn
      have et : PyFlat.told (PyFlat.played mStep st (c :: cs)) = (((mStep st c).2.length : Int) :: (mStep st c).2) ++ PyFlat.told (PyFlat.played mStep (mStep st c).1 cs) := by
        simp [PyFlat.played, PyFlat.told]
      rw [et] at hl ⊢
      simp only [List.length_append, List.length_cons] at hl
      have b := ans_body (x := x) (y := y) (z := z) hn g hcc (acc := acc) (by omega)
      obtain ⟨st', x', y', z', ih⟩ := ans_loop (ns := ns) hG cs (mStep st c).1 (pre ++ flat c) (acc ++ (((mStep st c).2.length : Int) :: (mStep st c).2)) k (some (.int (pre.length : Int))) (some (.int ((flat c).length : Int))) (some (eInts (mStep st c).2)) (hG st c g hcc) (fun d hd => hc d (List.mem_cons_of_mem _ hd)) (by rw [hn]; simp) (by simp only [List.length_cons] at hk; omega) (by simp only [List.length_append, List.length_cons]; omega)
      refine ⟨st', x', y', z', ?_⟩
      unfold whileD
      have ht : gAnsTest (frz ⟨[some (.inp ns), none, some (eS st), some (.int (((c :: cs).flatMap flat).length : Int)), x, y, z], some (1, acc.map D.int)⟩) = some true := by
        have hp : (0 : Int) < (((flat c ++ cs.flatMap flat).length : Nat) : Int) := by
          rw [List.length_append]; omega
        simp only [List.flatMap_cons, gAnsTest, s_frz1, List.set_cons_succ, List.set_cons_zero, s_fT, s_f2, s_fVar, s_fC, List.getElem?_cons_succ, List.getElem?_cons_zero, Option.join_some, Option.bind_some, s_gGt, decide_eq_true hp]
      rw [ht]
      simp only [Option.bind_some, if_true, List.flatMap_cons]
      rw [b]
      simp only [Option.bind_some]
      rw [ih]
      simp
theorem answers_eq {ns : List Int} (hG : ∀ st c, Good st → Call c → Good (mStep st c).1) {cs : List (List (List Int))} (hc : ∀ c ∈ cs, Call c) (hn : ns = cs.flatMap flat) (hk : cs.length ≤ 25000) (hl : (PyFlat.told (PyFlat.played mStep (([], []) : Stt) cs)).length ≤ line) (g0 : Good ([], [])) :
    answers_D [.inp ns] = some (eInts (PyFlat.told (PyFlat.played mStep (([], []) : Stt) cs))) := by
  unfold answers_D
  obtain ⟨st', x', y', z', e⟩ := ans_loop (ns := ns) hG cs ([], []) [] [] 25001 none none none g0 hc (by simpa using hn) (by omega) (by simpa using hl)
  rw [← hn] at e
  have e' : whileD gAnsTest gAnsBody 25001 ⟨[some (.inp ns), none, some (.tup [.tup [], .tup []]), some (.int (ns.length : Int)), none, none, none], some (1, [])⟩ = _ := e
  simp only [gAnsTest, gAnsBody] at e'
  simp [g_answers, len_inp]
  rw [e']
  simp [eInts]
end Sb
end
section
set_option Elab.async false
set_option linter.all false
set_option maxRecDepth 100000
set_option maxHeartbeats 4000000
/-! ### what the specification calls a state -/
namespace Sb
open VbjjPlain (Value Field Thing)
open VbjjShape (Kind Slot Shape Laid Layout Sister)
def aName (n : Int) : VbjjPlain.Bytes := [97 + n.toNat]
def aVal (v : Val) : Value := if v.1 = 1 then .truth (v.2 == 1) else if v.1 = 2 then .number v.2 else if v.1 = 3 then .text (aName v.2) else if v.1 = 4 then .object v.2.toNat else if v.1 = 5 then .function v.2.toNat else .nothing
def aKd : Kd → Kind
  | .cst v => .constant (aVal v)
  | .knd n => if n = 1 then .truth else if n = 2 then .number else if n = 3 then .text else if n = 4 then .object else if n = 5 then .function else .any
def aP (p : Int) : Option Nat := if p < 0 then none else some p.toNat
def aFld (f : Fld) : Field := ⟨aName f.name, aVal f.val, f.rd == 1⟩
def aSlt (s : Slt) : Slot := ⟨aName s.name, s.rd == 1, aKd s.kind⟩
def aShp (s : Shp) : Shape := ⟨aP s.proto, s.slots.map aSlt⟩
def aThing (p : Int) (fs : List Fld) : Thing := ⟨aP p, fs.map aFld⟩
def aLaid (p : Int) (fs : List Fld) : Option Shp → Laid
  | none => .loose (aThing p fs)
  | some s => .shaped (aShp s) (fs.map fun f => aVal f.val)
def aThg (t : Thg) : Laid := aLaid t.proto t.fields t.lay
def aSis (s : Sis) : Sister := ⟨aShp s.shape, aName s.name, s.rd == 1, aKd s.kind⟩
def aS (st : Stt) : Layout := ⟨st.1.map aThg, VbjjPlain.emptyHeap, st.2.map aSis, [], [], [], []⟩
theorem val_cases {v : Val} (h : mIsValue v = true) : v = (0, 0) ∨ v = (1, 0) ∨ v = (1, 1) ∨ (∃ z, v = (2, z)) ∨ (∃ n : Nat, v = (3, (n : Int)) ∧ n ≤ 25) ∨ (∃ n : Nat, v = (4, (n : Int)) ∧ n ≤ 39) ∨ (∃ n : Nat, v = (5, (n : Int)) ∧ n ≤ 9) := by
  obtain ⟨a, b⟩ := v
  unfold mIsValue at h
  dsimp only at h
  by_cases h0 : a = 0
  · subst h0
    simp at h
    subst h
    exact .inl rfl
  rw [if_neg h0] at h
  by_cases h1 : a = 1
  · subst h1
    simp at h
    by_cases hb : b = 0
    · subst hb; exact .inr (.inl rfl)
    · have : b = 1 := by omega
      subst this; exact .inr (.inr (.inl rfl))
  rw [if_neg h1] at h
  by_cases h2 : a = 2
  · subst h2
    exact .inr (.inr (.inr (.inl ⟨b, rfl⟩)))
  rw [if_neg h2] at h
  by_cases h3 : a = 3
  · subst h3
    simp at h
    exact .inr (.inr (.inr (.inr (.inl ⟨b.toNat, by rw [Int.toNat_of_nonneg h.1], by omega⟩))))
  rw [if_neg h3] at h
  by_cases h4 : a = 4
  · subst h4
    simp at h
    exact .inr (.inr (.inr (.inr (.inr (.inl ⟨b.toNat, by rw [Int.toNat_of_nonneg h.1], by omega⟩)))))
  rw [if_neg h4] at h
  by_cases h5 : a = 5
  · subst h5
    simp at h
    exact .inr (.inr (.inr (.inr (.inr (.inr ⟨b.toNat, by rw [Int.toNat_of_nonneg h.1], by omega⟩)))))
  rw [if_neg h5] at h
  cases h
theorem letter_of (n : Int) (h : 0 ≤ n) : Vbjjac.letterOf (aName n) = n := by
  unfold Vbjjac.letterOf aName
  simp
  omega
theorem flag_of {r : Int} (h : mBit r = true) : Vbjjac.flag (r == 1) = r := by
  unfold mBit at h
  simp at h
  unfold Vbjjac.flag
  by_cases e : r = 1
  · simp [e]
  · simp [e]; omega
theorem p_of {p : Int} (h : -1 ≤ p) : Vbjjac.prototypeField (aP p) = p := by
  unfold aP
  by_cases e : p < 0
  · simp [e, Vbjjac.prototypeField]; omega
  · simp [e, Vbjjac.prototypeField]; omega
theorem val_of {v : Val} (h : mIsValue v = true) : Vbjjac.valueFields (aVal v) = [v.1, v.2] := by
  rcases val_cases h with rfl | rfl | rfl | ⟨z, rfl⟩ | ⟨n, rfl, hn⟩ | ⟨n, rfl, hn⟩ | ⟨n, rfl, hn⟩ <;> simp [aVal, Vbjjac.valueFields, Vbjjac.flag]
  exact letter_of _ (by omega)
theorem knd_cases {n : Int} (h : 1 ≤ n ∧ n ≤ 6) : n = 1 ∨ n = 2 ∨ n = 3 ∨ n = 4 ∨ n = 5 ∨ n = 6 := by omega
theorem kd_of {k : Kd} (h : KV k) : Vbjjac.kindFields (aKd k) = tKd k := by
  cases k with
  | cst v => simp [aKd, Vbjjac.kindFields, tKd, val_of h]
  | knd n => rcases knd_cases h with rfl | rfl | rfl | rfl | rfl | rfl <;> simp [aKd, Vbjjac.kindFields, tKd]
theorem name_ok {n : Int} (h : mIsName n = true) : 0 ≤ n ∧ n ≤ 25 := by
  unfold mIsName at h
  simpa using h
theorem slt_of {s : Slt} (h : SltV s) : Vbjjac.slotFields (aSlt s) = tSlt s := by
  simp [aSlt, Vbjjac.slotFields, tSlt, kd_of h.kd, flag_of h.rd, letter_of _ (name_ok h.nm).1]
theorem slts_of : ∀ {l : List Slt}, (∀ s ∈ l, SltV s) → (l.map aSlt).flatMap Vbjjac.slotFields = l.flatMap tSlt
  | [], _ => rfl
  | s :: l, h => by
    simp only [List.map_cons, List.flatMap_cons, slt_of (h s List.mem_cons_self), slts_of (l := l) fun x hx => h x (List.mem_cons_of_mem _ hx)]
theorem shp_of {n : Nat} {s : Shp} (h : ShpV n s) : Vbjjac.shapeFields (aShp s) = tShp s := by
  simp [aShp, Vbjjac.shapeFields, tShp, p_of h.pr, slts_of h.sl]
theorem fld_ok {f : Fld} (h : mIsField f = true) : mIsName f.name = true ∧ mBit f.rd = true ∧ mIsValue f.val = true := by
  unfold mIsField at h
  simpa using h
theorem fld_of {f : Fld} (h : mIsField f = true) : Vbjjac.fieldFields (aFld f) = tFld f := by
  obtain ⟨h1, h2, h3⟩ := fld_ok h
  simp [aFld, Vbjjac.fieldFields, tFld, val_of h3, flag_of h2, letter_of _ (name_ok h1).1]
theorem flds_of : ∀ {l : List Fld}, (∀ s ∈ l, mIsField s = true) → (l.map aFld).flatMap Vbjjac.fieldFields = l.flatMap tFld
  | [], _ => rfl
  | s :: l, h => by
    simp only [List.map_cons, List.flatMap_cons, fld_of (h s List.mem_cons_self), flds_of (l := l) fun x hx => h x (List.mem_cons_of_mem _ hx)]
theorem sis_of {s : Sis} (h : SisV s) : Vbjjac.shapeFields (aSis s).shape ++ (Vbjjac.letterOf (aSis s).name :: Vbjjac.flag (aSis s).isReader :: Vbjjac.kindFields (aSis s).kind) = tSis s := by
  simp [aSis, tSis, shp_of h.sh, kd_of h.kd, flag_of h.rd, letter_of _ (name_ok h.nm).1]
/-! apart -/
theorem aName_inj {a b : Int} (ha : mIsName a = true) (hb : mIsName b = true) : aName a = aName b ↔ a = b := by
  refine ⟨fun h => ?_, fun h => by rw [h]⟩
  have := congrArg Vbjjac.letterOf h
  rwa [letter_of _ (name_ok ha).1, letter_of _ (name_ok hb).1] at this
theorem aBit_inj {a b : Int} (ha : mBit a = true) (hb : mBit b = true) : (a == 1) = (b == 1) ↔ a = b := by
  refine ⟨fun h => ?_, fun h => by rw [h]⟩
  have := congrArg Vbjjac.flag h
  rwa [flag_of ha, flag_of hb] at this
theorem aVal_inj {a b : Val} (ha : mIsValue a = true) (hb : mIsValue b = true) : aVal a = aVal b ↔ a = b := by
  refine ⟨fun h => ?_, fun h => by rw [h]⟩
  have := congrArg Vbjjac.valueFields h
  rw [val_of ha, val_of hb] at this
  simp at this
  exact Prod.ext this.1 this.2
theorem tKd_inj {a b : Kd} (h : tKd a = tKd b) : a = b := by
  cases a <;> cases b <;> simp [tKd] at h
  · rename_i v w
    exact congrArg Kd.cst (Prod.ext h.1 h.2)
  · rw [h]
theorem aKd_inj {a b : Kd} (ha : KV a) (hb : KV b) : aKd a = aKd b ↔ a = b := by
  refine ⟨fun h => ?_, fun h => by rw [h]⟩
  have := congrArg Vbjjac.kindFields h
  rw [kd_of ha, kd_of hb] at this
  exact tKd_inj this
theorem aP_inj {a b : Int} (ha : -1 ≤ a) (hb : -1 ≤ b) : aP a = aP b ↔ a = b := by
  refine ⟨fun h => ?_, fun h => by rw [h]⟩
  have := congrArg Vbjjac.prototypeField h
  rwa [p_of ha, p_of hb] at this
theorem aSlt_inj {a b : Slt} (ha : SltV a) (hb : SltV b) : aSlt a = aSlt b ↔ a = b := by
  refine ⟨fun h => ?_, fun h => by rw [h]⟩
  have := congrArg Vbjjac.slotFields h
  rw [slt_of ha, slt_of hb] at this
  obtain ⟨n, r, k⟩ := a
  obtain ⟨n', r', k'⟩ := b
  simp [tSlt] at this
  obtain ⟨rfl, rfl, h3⟩ := this
  rw [tKd_inj h3]
theorem map_inj_on {α β : Type} {f : α → β} {P : α → Prop} (h : ∀ a b, P a → P b → f a = f b → a = b) : ∀ {l m : List α}, (∀ a ∈ l, P a) → (∀ a ∈ m, P a) → l.map f = m.map f → l = m
  | [], [], _, _, _ => rfl
  | [], _ :: _, _, _, e => by simp at e
  | _ :: _, [], _, _, e => by simp at e
  | a :: l, b :: m, hl, hm, e => by
    simp only [List.map_cons, List.cons.injEq] at e
    rw [h a b (hl a List.mem_cons_self) (hm b List.mem_cons_self) e.1, map_inj_on h (fun x hx => hl x (List.mem_cons_of_mem _ hx)) (fun x hx => hm x (List.mem_cons_of_mem _ hx)) e.2]
theorem aShp_inj {n m : Nat} {a b : Shp} (ha : ShpV n a) (hb : ShpV m b) : aShp a = aShp b ↔ a = b := by
  refine ⟨fun h => ?_, fun h => by rw [h]⟩
  obtain ⟨p, s⟩ := a
  obtain ⟨q, t⟩ := b
  unfold aShp at h
  simp only [Shape.mk.injEq] at h
  have h1 := (aP_inj ha.pr hb.pr).1 h.1
  have h2 := map_inj_on (P := SltV) (fun a b x y e => (aSlt_inj x y).1 e) ha.sl hb.sl h.2
  simp only at h1 h2
  rw [h1, h2]
theorem aFld_inj {a b : Fld} (ha : mIsField a = true) (hb : mIsField b = true) : aFld a = aFld b ↔ a = b := by
  refine ⟨fun h => ?_, fun h => by rw [h]⟩
  have := congrArg Vbjjac.fieldFields h
  rw [fld_of ha, fld_of hb] at this
  obtain ⟨n, r, k, c⟩ := a
  obtain ⟨n', r', k', c'⟩ := b
  simp [tFld] at this
  obtain ⟨rfl, rfl, rfl, rfl⟩ := this
  rfl
/-! kinds -/
theorem kindOf_a {v : Val} (h : mIsValue v = true) : VbjjShape.kindOf (aVal v) = aKd (.knd (if v.1 = 0 then 6 else v.1)) := by
  rcases val_cases h with rfl | rfl | rfl | ⟨z, rfl⟩ | ⟨n, rfl, hn⟩ | ⟨n, rfl, hn⟩ | ⟨n, rfl, hn⟩ <;> simp [aVal, aKd, VbjjShape.kindOf]
theorem has_a {k : Kd} {v : Val} (hk : KV k) (h : mIsValue v = true) : VbjjShape.hasKind (aKd k) (aVal v) = mHas k v := by
  cases k with
  | cst w =>
    have q := aVal_inj h (b := w) hk
    simp only [aKd, VbjjShape.hasKind, mHas]
    by_cases e : w = v
    · subst e; simp
    · have e' : ¬ v = w := fun x => e x.symm
      simp [e, q, e']
  | knd n =>
    rcases knd_cases hk with rfl | rfl | rfl | rfl | rfl | rfl <;> rcases val_cases h with rfl | rfl | rfl | ⟨z, rfl⟩ | ⟨n, rfl, hn⟩ | ⟨n, rfl, hn⟩ | ⟨n, rfl, hn⟩ <;> simp [aVal, aKd, VbjjShape.kindOf, VbjjShape.hasKind, mHas] <;> decide
theorem joined_a {k : Kd} {v : Val} (hk : KV k) (h : mIsValue v = true) : VbjjShape.joined (aKd k) (aVal v) = aKd (mJoined k v) := by
  unfold VbjjShape.joined mJoined
  rw [has_a hk h]
  by_cases c : mHas k v = true
  · rw [if_pos c, if_pos c]
  · rw [if_neg c, if_neg c]
    cases k with
    | cst w =>
      have hw : mIsValue w = true := hk
      show (if VbjjShape.kindOf (aVal w) = VbjjShape.kindOf (aVal v) then VbjjShape.kindOf (aVal v) else Kind.any) = _
      have hne : ¬ w = v := by simpa [mHas] using c
      rcases val_cases hw with rfl | rfl | rfl | ⟨z, rfl⟩ | ⟨n, rfl, hn⟩ | ⟨n, rfl, hn⟩ | ⟨n, rfl, hn⟩ <;> rcases val_cases h with rfl | rfl | rfl | ⟨z, rfl⟩ | ⟨n, rfl, hn⟩ | ⟨n, rfl, hn⟩ | ⟨n, rfl, hn⟩ <;> first | exact absurd rfl hne | simp [aVal, aKd, VbjjShape.kindOf]
    | knd n =>
      rcases knd_cases hk with rfl | rfl | rfl | rfl | rfl | rfl <;> simp [aKd]
theorem value_from (k c : Int) : Vbjjac.valueFrom k c = if mIsValue (k, c) = true then some (aVal (k, c)) else none := by
  unfold Vbjjac.valueFrom mIsValue aVal Vbjjac.isName Vbjjac.inRange Vbjjac.nameFrom aName Vbjjac.maxObjects VbjjPlain.maxNumber
  dsimp only
  by_cases h0 : k = 0
  · subst h0
    by_cases e : c = 0 <;> simp [e]
  by_cases h1 : k = 1
  · subst h1
    by_cases e : 0 ≤ c ∧ c ≤ 1 <;> simp [e]
  by_cases h2 : k = 2
  · subst h2
    by_cases e : -1000000000 ≤ c ∧ c ≤ 1000000000 <;> simp [e]
  by_cases h3 : k = 3
  · subst h3
    by_cases e : 0 ≤ c ∧ c ≤ 25 <;> simp [e]
  by_cases h4 : k = 4
  · subst h4
    by_cases e : 0 ≤ c ∧ c ≤ 39
    · have e' : 0 ≤ c ∧ c ≤ ((40 : Nat) : Int) - 1 := by omega
      simp [e] at e' ⊢
    · have e' : ¬ (0 ≤ c ∧ c ≤ ((40 : Nat) : Int) - 1) := by omega
      simp [e] at e' ⊢
  by_cases h5 : k = 5
  · subst h5
    by_cases e : 0 ≤ c ∧ c ≤ 9 <;> simp [e]
  simp [h0, h1, h2, h3, h4, h5]
end Sb
end
section
set_option Elab.async false
set_option linter.all false
set_option maxRecDepth 100000
set_option maxHeartbeats 4000000
/-! ### sisters and layouts -/
namespace Sb
open VbjjPlain (Value Field Thing)
open VbjjShape (Kind Slot Shape Laid Layout Sister)
structure SsV (ss : List Sis) : Prop where
  sl : ss.length ≤ 60
  si : ∀ s ∈ ss, SisV s
  un : ss.Pairwise fun a b => ¬ (a.shape = b.shape ∧ a.name = b.name ∧ a.rd = b.rd)
def LayV (p : Int) (fs : List Fld) (lay : Option Shp) : Prop := ∀ s, lay = some s → s.proto = p ∧ Fits s.slots fs
theorem fits_slt : ∀ {xs : List Slt} {fs : List Fld}, Fits xs fs → (∀ f ∈ fs, mIsField f = true) → ∀ x ∈ xs, SltV x
  | _, _, .nil, _, x, hx => by simp at hx
  | _, _, .cons (x := a) (f := f) h1 h2 h3 h4 h5, hf, x, hx => by
    rcases List.mem_cons.1 hx with rfl | hx
    · obtain ⟨q1, q2, q3⟩ := fld_ok (hf f List.mem_cons_self)
      exact ⟨by rw [h1]; exact q1, by rw [h2]; exact q2, h3⟩
    · exact fits_slt h5 (fun g hg => hf g (List.mem_cons_of_mem _ hg)) x hx
theorem lay_shp {p : Int} {fs : List Fld} {lay : Option Shp} {s : Shp} (L : LayV p fs lay) (hp : -1 ≤ p) (F : ∀ f ∈ fs, mIsField f = true) (h : lay = some s) : ShpV fs.length s := by
  obtain ⟨h1, h2⟩ := L s h
  exact ⟨by omega, fits_slt h2 F, by rw [h2.length]; exact Nat.le_refl _⟩
theorem fits_snoc : ∀ {xs : List Slt} {fs : List Fld} {x : Slt} {f : Fld}, Fits xs fs → x.name = f.name → x.rd = f.rd → KV x.kind → mHas x.kind f.val = true → Fits (xs ++ [x]) (fs ++ [f])
  | _, _, x, f, .nil, a, b, c, d => .cons a b c d .nil
  | _, _, x, f, .cons h1 h2 h3 h4 h5, a, b, c, d => .cons h1 h2 h3 h4 (fits_snoc h5 a b c d)
theorem fits_set : ∀ {xs : List Slt} {fs : List Fld} {x : Slt} {f : Fld} {i : Nat}, Fits xs fs → x.name = f.name → x.rd = f.rd → KV x.kind → mHas x.kind f.val = true → Fits (xs.set i x) (fs.set i f)
  | _, _, x, f, _, .nil, a, b, c, d => .nil
  | _, _, x, f, 0, .cons h1 h2 h3 h4 h5, a, b, c, d => .cons a b c d h5
  | _, _, x, f, i + 1, .cons h1 h2 h3 h4 h5, a, b, c, d => .cons h1 h2 h3 h4 (fits_set h5 a b c d)
theorem fits_take : ∀ {xs : List Slt} {fs : List Fld} {i : Nat}, Fits xs fs → Fits (xs.take i) (fs.take i)
  | _, _, _, .nil => by simp; exact .nil
  | _, _, 0, .cons h1 h2 h3 h4 h5 => .nil
  | _, _, i + 1, .cons h1 h2 h3 h4 h5 => .cons h1 h2 h3 h4 (fits_take h5)
theorem fits_get : ∀ {xs : List Slt} {fs : List Fld} {i : Nat} {x : Slt} {f : Fld}, Fits xs fs → xs[i]? = some x → fs[i]? = some f → x.name = f.name ∧ x.rd = f.rd ∧ KV x.kind ∧ mHas x.kind f.val = true
  | _, _, _, _, _, .nil, h, _ => by simp at h
  | _, _, 0, x, f, .cons h1 h2 h3 h4 h5, a, b => by
    simp at a b
    subst a b
    exact ⟨h1, h2, h3, h4⟩
  | _, _, i + 1, x, f, .cons h1 h2 h3 h4 h5, a, b => fits_get h5 (by simpa using a) (by simpa using b)
theorem zip_a : ∀ {xs : List Slt} {fs : List Fld}, Fits xs fs → (((xs.map aSlt).zip (fs.map fun f => aVal f.val)).map fun x => (⟨x.1.name, x.2, x.1.isReader⟩ : Field)) = fs.map aFld
  | _, _, .nil => rfl
  | _, _, .cons (x := x) (f := f) h1 h2 h3 h4 h5 => by
    simp only [List.map_cons, List.zip_cons_cons, zip_a h5]
    simp [aSlt, aFld, h1, h2]
theorem plain_a {p : Int} {fs : List Fld} {lay : Option Shp} (L : LayV p fs lay) : VbjjShape.plainOf (aLaid p fs lay) = aThing p fs := by
  cases lay with
  | none => rfl
  | some s =>
    obtain ⟨h1, h2⟩ := L s rfl
    simp only [aLaid, VbjjShape.plainOf, aShp, aThing, h1, zip_a h2]
/-! sisters -/
theorem findF_find {α β : Type} {g : α → β} {q : β → Bool} {p : α → Bool} : ∀ {l : List α} {k : Nat}, (∀ x ∈ l, q (g x) = p x) → (l.map g).find? q = (findF p k l).bind fun i => (l[i - k]?).map g
  | [], _, _ => rfl
  | a :: l, k, h => by
    have ha := h a List.mem_cons_self
    unfold findF
    simp only [List.map_cons, List.find?_cons, ha]
    by_cases c : p a = true
    · simp [c]
    · have ih := findF_find (l := l) (k := k + 1) fun x hx => h x (List.mem_cons_of_mem _ hx)
      have c' : p a = false := by simpa using c
      simp only [c', ih, Bool.false_eq_true, if_false]
      cases e : findF p (k + 1) l with
      | none => rfl
      | some i =>
        obtain ⟨_, h1, _⟩ := findF_some e
        simp only [Option.bind_some]
        rw [show i - k = (i - (k + 1)) + 1 by omega, List.getElem?_cons_succ]
theorem findF_idx {α β : Type} {g : α → β} {q : β → Bool} {p : α → Bool} : ∀ {l : List α} {k : Nat}, (∀ x ∈ l, q (g x) = p x) → (l.map g).findIdx? q = (findF p k l).map fun i => i - k
  | [], _, _ => rfl
  | a :: l, k, h => by
    have ha := h a List.mem_cons_self
    unfold findF
    simp only [List.map_cons, List.findIdx?_cons, ha]
    by_cases c : p a = true
    · simp [c]
    · have ih := findF_idx (l := l) (k := k + 1) fun x hx => h x (List.mem_cons_of_mem _ hx)
      have c' : p a = false := by simpa using c
      simp only [c', ih, Bool.false_eq_true, if_false]
      cases e : findF p (k + 1) l with
      | none => rfl
      | some i =>
        obtain ⟨_, h1, _⟩ := findF_some e
        simp only [Option.map_some]
        congr 1
        omega
abbrev pSis (s : Shp) (w r : Int) : Sis → Bool := fun x => decide (x.shape = s) && (decide (x.name = w) && decide (x.rd = r))
theorem key_a {x : Sis} (hx : SisV x) {m : Nat} {s : Shp} {w r : Int} (hs : ShpV m s) (hw : mIsName w = true) (hr : mBit r = true) : ((aSis x).shape == aShp s && ((aSis x).name == aName w && (aSis x).isReader == (r == 1))) = pSis s w r x := by
  unfold pSis
  have h1 := aShp_inj hx.sh hs
  have h2 := aName_inj hx.nm hw
  have h3 := aBit_inj hx.rd hr
  have e1 : (aShp x.shape == aShp s) = decide (x.shape = s) := by
    by_cases c : x.shape = s
    · simp [c]
    · simp [c, h1]
  have e2 : (aName x.name == aName w) = decide (x.name = w) := by
    by_cases c : x.name = w
    · simp [c]
    · simp [c, h2]
  have e3 : ((x.rd == 1) == (r == 1)) = decide (x.rd = r) := by
    by_cases c : x.rd = r
    · simp [c]
    · have : ¬ (x.rd == 1) = (r == 1) := fun e => c (h3.1 e)
      simp only [c, decide_false]
      simpa using this
  show (aShp x.shape == aShp s && (aName x.name == aName w && (x.rd == 1) == (r == 1))) = _
  rw [e1, e2, e3]
theorem sisterOf_a {ss : List Sis} (S : SsV ss) {m : Nat} {s : Shp} {w r : Int} (hs : ShpV m s) (hw : mIsName w = true) (hr : mBit r = true) : VbjjShape.sisterOf (ss.map aSis) (aShp s) (aName w) (r == 1) = (mSisPlace ss s w r).bind fun i => (ss[i]?).map fun x => aKd x.kind := by
  unfold VbjjShape.sisterOf mSisPlace
  rw [findF_find (k := 0) (p := pSis s w r) fun x hx => key_a (S.si x hx) hs hw hr]
  cases findF (pSis s w r) 0 ss with
  | none => rfl
  | some i =>
    simp only [Option.bind_some, Nat.sub_zero, Option.map_map]
    rfl
theorem map_one {α : Type} {p : α → Bool} {g : α → α} : ∀ {l : List α} {k i : Nat}, (l.Pairwise fun a b => ¬ (p a = true ∧ p b = true)) → findF p k l = some i → ∀ x, l[i - k]? = some x → (l.map fun a => if p a = true then g a else a) = l.set (i - k) (g x)
  | [], _, _, _, h, _, _ => by simp [findF] at h
  | a :: l, k, i, u, h, x, hx => by
    unfold findF at h
    rw [List.pairwise_cons] at u
    by_cases c : p a = true
    · rw [if_pos c] at h
      cases h
      simp only [Nat.sub_self, List.getElem?_cons_zero, Option.some.injEq] at hx
      subst hx
      simp only [List.map_cons, if_pos c, Nat.sub_self, List.set_cons_zero]
      congr 1
      have : (l.map fun b => if p b = true then g b else b) = l.map id := List.map_congr_left fun b hb => if_neg fun e => u.1 b hb ⟨c, e⟩
      rw [this, List.map_id]
    · rw [if_neg c] at h
      obtain ⟨_, h1, _⟩ := findF_some h
      rw [show i - k = (i - (k + 1)) + 1 by omega, List.getElem?_cons_succ] at hx
      rw [show i - k = (i - (k + 1)) + 1 by omega, List.set_cons_succ, ← map_one (l := l) u.2 h x hx]
      simp only [List.map_cons, if_neg c]
theorem apart_of {ss : List Sis} (S : SsV ss) (s : Shp) (w r : Int) : ss.Pairwise fun a b => ¬ (pSis s w r a = true ∧ pSis s w r b = true) := by
  refine S.un.imp ?_
  rintro a b h ⟨h1, h2⟩
  simp [pSis] at h1 h2
  exact h ⟨by rw [h1.1, h2.1], by rw [h1.2.1, h2.2.1], by rw [h1.2.2, h2.2.2]⟩
theorem withSister_a {ss : List Sis} (S : SsV ss) {m i : Nat} {s : Shp} {w r : Int} {x : Sis} (hs : ShpV m s) (hw : mIsName w = true) (hr : mBit r = true) (h : mSisPlace ss s w r = some i) (hx : ss[i]? = some x) (k : Kd) :
    VbjjShape.withSister (ss.map aSis) (aShp s) (aName w) (r == 1) (aKd k) = (ss.set i ⟨x.shape, x.name, x.rd, k⟩).map aSis := by
  unfold VbjjShape.withSister
  rw [sisterOf_a S hs hw hr, h]
  simp only [Option.bind_some, hx, Option.map_some, Option.isSome_some, if_true]
  have q := map_one (g := fun a => ⟨a.shape, a.name, a.rd, k⟩) (apart_of S s w r) h x (by simpa using hx)
  rw [Nat.sub_zero] at q
  rw [← q, List.map_map, List.map_map]
  refine List.map_congr_left fun a ha => ?_
  have e := key_a (S.si a ha) hs hw hr
  simp only [Function.comp]
  by_cases c : pSis s w r a = true
  · rw [c] at e
    simp only [Bool.and_eq_true, beq_iff_eq] at e
    rw [if_pos ⟨e.1, e.2.1, by rw [e.2.2]⟩, if_pos c]
    rfl
  · have e' : pSis s w r a = false := by simpa using c
    rw [e'] at e
    rw [if_neg c, if_neg]
    rintro ⟨h1, h2, h3⟩
    rw [h1, h2, h3] at e
    simp at e
theorem withSister_new {ss : List Sis} (S : SsV ss) {m : Nat} {s : Shp} {w r : Int} (hs : ShpV m s) (hw : mIsName w = true) (hr : mBit r = true) (h : mSisPlace ss s w r = none) (k : Kd) :
    VbjjShape.withSister (ss.map aSis) (aShp s) (aName w) (r == 1) (aKd k) = (ss ++ [(⟨s, w, r, k⟩ : Sis)]).map aSis := by
  unfold VbjjShape.withSister
  rw [sisterOf_a S hs hw hr, h]
  simp [aSis]
theorem sis_at {ss : List Sis} {s : Shp} {w r : Int} {i : Nat} (h : mSisPlace ss s w r = some i) : ∃ x, ss[i]? = some x ∧ x.shape = s ∧ x.name = w ∧ x.rd = r := by
  obtain ⟨x, _, h2, h3, _⟩ := findF_some h
  simp at h3
  exact ⟨x, by simpa using h2, h3.1, h3.2.1, h3.2.2⟩
theorem risen_at {ss : List Sis} {i : Nat} {x : Sis} (h : ss[i]? = some x) (v : Val) : mRisen ss i v = ss.set i ⟨x.shape, x.name, x.rd, mJoined x.kind v⟩ := by
  unfold mRisen
  rw [h]
theorem pair_set {ss : List Sis} {i : Nat} {x y : Sis} (hx : ss[i]? = some x) (e1 : y.shape = x.shape) (e2 : y.name = x.name) (e3 : y.rd = x.rd) (u : ss.Pairwise fun a b => ¬ (a.shape = b.shape ∧ a.name = b.name ∧ a.rd = b.rd)) : (ss.set i y).Pairwise fun a b => ¬ (a.shape = b.shape ∧ a.name = b.name ∧ a.rd = b.rd) := by
  have q : (ss.map fun a => (a.shape, a.name, a.rd)).Pairwise fun a b => ¬ a = b := by
    rw [List.pairwise_map]
    refine u.imp ?_
    intro a b h e
    simp only [Prod.mk.injEq] at e
    exact h e
  have e : (ss.set i y).map (fun a => (a.shape, a.name, a.rd)) = ss.map fun a => (a.shape, a.name, a.rd) := by
    apply List.ext_getElem?
    intro j
    simp only [List.getElem?_map, List.getElem?_set]
    by_cases c : i = j
    · subst c
      have hl : i < ss.length := by
        rcases Nat.lt_or_ge i ss.length with h | h
        · exact h
        · rw [List.getElem?_eq_none h] at hx; cases hx
      simp [hl, hx, e1, e2, e3]
      have := hx
      rw [List.getElem?_eq_getElem hl] at this
      cases this
      exact ⟨rfl, rfl, rfl⟩
    · simp [c]
  rw [← e, List.pairwise_map] at q
  refine q.imp ?_
  intro a b h e
  exact h (by simp only [Prod.mk.injEq]; exact e)
theorem risen_ss {ss : List Sis} (S : SsV ss) {i : Nat} {x : Sis} (h : ss[i]? = some x) {v : Val} (hv : mIsValue v = true) : SsV (mRisen ss i v) := by
  refine ⟨by rw [risen_len]; exact S.sl, ?_, by rw [risen_at h]; exact pair_set h rfl rfl rfl S.un⟩
  intro s hs
  obtain ⟨t, ht, e1, e2, e3, e4⟩ := risen_get hs
  have T := S.si t ht
  refine ⟨by rw [e1]; exact T.sh, by rw [e2]; exact T.nm, by rw [e3]; exact T.rd, ?_⟩
  rcases e4 with e4 | e4
  · rw [e4]; exact T.kd
  · rw [e4]; exact joined_kv T.kd hv
theorem new_ss {ss : List Sis} (S : SsV ss) {s : Shp} {w r : Int} {k : Kd} (hl : ss.length < 60) (hs : ShpV 8 s) (hw : mIsName w = true) (hr : mBit r = true) (hk : KV k) (h : mSisPlace ss s w r = none) : SsV (ss ++ [⟨s, w, r, k⟩]) := by
  refine ⟨by simp; omega, ?_, ?_⟩
  · intro x hx
    rcases List.mem_append.1 hx with hx | hx
    · exact S.si x hx
    · simp at hx
      subst hx
      exact ⟨hs, hw, hr, hk⟩
  · rw [List.pairwise_append]
    refine ⟨S.un, by simp, ?_⟩
    intro a ha b hb
    simp at hb
    subst hb
    have := findF_none.1 h a ha
    simp at this
    rintro ⟨h1, h2, h3⟩
    exact this h1 h2 h3
theorem ShpV.mono {n m : Nat} {s : Shp} (h : ShpV n s) (q : n ≤ m) : ShpV m s := ⟨h.pr, h.sl, Nat.le_trans h.ln q⟩
theorem added_a {ss : List Sis} {p : Int} {fs : List Fld} {lay : Option Shp} {f : Fld} (S : SsV ss) (hp : -1 ≤ p) (L : LayV p fs lay) (F : ∀ f ∈ fs, mIsField f = true) (hf : mIsField f = true) (hl : fs.length < 8) :
    VbjjShape.added (ss.map aSis) (aLaid p fs lay) (aFld f) = ((mAdded ss lay f).1.map aSis, aLaid p (fs ++ [f]) (mAdded ss lay f).2) ∧ SsV (mAdded ss lay f).1 ∧ LayV p (fs ++ [f]) (mAdded ss lay f).2 := by
  obtain ⟨q1, q2, q3⟩ := fld_ok hf
  cases lay with
  | none =>
    refine ⟨?_, S, fun s h => by cases h⟩
    simp [aLaid, VbjjShape.added, mAdded, aThing]
  | some s =>
    have V := lay_shp L hp F rfl
    obtain ⟨e1, e2⟩ := L s rfl
    have V8 := V.mono (Nat.le_of_lt hl)
    have E : VbjjShape.sisterOf (ss.map aSis) (aShp s) (aFld f).name (aFld f).isReader = _ := sisterOf_a S V q1 q2
    cases h : mSisPlace ss s f.name f.rd with
    | some i =>
      obtain ⟨x, hx, x1, x2, x3⟩ := sis_at h
      have X := S.si x (List.mem_of_getElem? hx)
      have hi := sisPlace_lt h
      have e : mAdded ss (some s) f = (mRisen ss i f.val, some ⟨s.proto, s.slots ++ [⟨f.name, f.rd, mJoined x.kind f.val⟩]⟩) := by
        unfold mAdded
        simp only [h, risen_at hx]
        rw [List.getElem?_set_self hi]
        rfl
      rw [e]
      refine ⟨?_, risen_ss S hx q3, ?_⟩
      · simp only [aLaid, VbjjShape.added]
        rw [E, h]
        simp only [Option.bind_some, hx, Option.map_some]
        have W := withSister_a S V q1 q2 h hx (mJoined x.kind f.val)
        rw [← joined_a X.kd q3] at W
        show (VbjjShape.withSister (ss.map aSis) (aShp s) (aName f.name) (f.rd == 1) (VbjjShape.joined (aKd x.kind) (aVal f.val)), _) = _
        rw [W, risen_at hx]
        simp [aShp, aSlt, aFld, joined_a X.kd q3]
      · intro t ht
        cases ht
        exact ⟨e1, fits_snoc e2 rfl rfl (joined_kv X.kd q3) (joined_has _ _)⟩
    | none =>
      by_cases c : 60 ≤ ss.length
      · have e : mAdded ss (some s) f = (ss, none) := by
          unfold mAdded
          simp only [h, if_pos c]
        rw [e]
        refine ⟨?_, S, fun s h => by cases h⟩
        have P := plain_a L
        simp only [aLaid] at P
        simp only [aLaid, VbjjShape.added]
        rw [E, h]
        simp [VbjjShape.maxSisters, c, P, aThing]
      · have e : mAdded ss (some s) f = (ss ++ [⟨s, f.name, f.rd, .cst f.val⟩], some ⟨s.proto, s.slots ++ [⟨f.name, f.rd, .cst f.val⟩]⟩) := by
          unfold mAdded
          simp only [h, if_neg c]
        rw [e]
        have K : KV (.cst f.val) := q3
        refine ⟨?_, new_ss S (by omega) V8 q1 q2 K h, ?_⟩
        · simp only [aLaid, VbjjShape.added]
          rw [E, h]
          have W := withSister_new S V q1 q2 h (.cst f.val)
          simp only [Option.bind_none, VbjjShape.maxSisters, List.length_map, c, if_false]
          show (VbjjShape.withSister (ss.map aSis) (aShp s) (aName f.name) (f.rd == 1) (aKd (.cst f.val)), _) = _
          rw [W]
          simp [aShp, aSlt, aFld, aKd]
        · intro t ht
          cases ht
          exact ⟨e1, fits_snoc e2 rfl rfl K (by simp [mHas])⟩
theorem made_a {p : Int} (hp : -1 ≤ p) : ∀ {gs fs : List Fld} {ss : List Sis} {lay : Option Shp}, SsV ss → LayV p fs lay → (∀ f ∈ fs ++ gs, mIsField f = true) → fs.length + gs.length ≤ 8 →
    ∀ r, gs.foldl (fun (y : List Sis × Option Shp) f => mAdded y.1 y.2 f) (ss, lay) = r → (gs.map aFld).foldl (fun (y : List Sister × Laid) f => VbjjShape.added y.1 y.2 f) (ss.map aSis, aLaid p fs lay) = (r.1.map aSis, aLaid p (fs ++ gs) r.2) ∧ SsV r.1 ∧ LayV p (fs ++ gs) r.2
  | [], fs, ss, lay, S, L, F, hl, r, hr => by
    cases hr
    simp
    exact ⟨S, L⟩
  | g :: gs, fs, ss, lay, S, L, F, hl, r, hr => by
    simp only [List.length_cons] at hl
    obtain ⟨a1, a2, a3⟩ := added_a S hp L (fun f hf => F f (List.mem_append_left _ hf)) (F g (List.mem_append_right _ List.mem_cons_self)) (by omega)
    have ih := made_a hp (gs := gs) (fs := fs ++ [g]) a2 a3 (by simpa using F) (by simp; omega) r hr
    simp only [List.map_cons, List.foldl_cons, a1]
    simpa using ih
end Sb
end
section
set_option Elab.async false
set_option linter.all false
set_option maxRecDepth 100000
set_option maxHeartbeats 4000000
/-! ### other contents, fields taken out -/
namespace Sb
open VbjjPlain (Value Field Thing)
open VbjjShape (Kind Slot Shape Laid Layout Sister)
theorem stored_a {ss : List Sis} {p : Int} {fs : List Fld} {lay : Option Shp} {f g : Fld} {i : Nat} (S : SsV ss) (hp : -1 ≤ p) (L : LayV p fs lay) (F : ∀ f ∈ fs, mIsField f = true) (hf : mIsField f = true) (hg : fs[i]? = some g) (hn : g.name = f.name) :
    VbjjShape.stored (ss.map aSis) (aLaid p fs lay) i (aFld f) = ((mReplaced ss lay i f).1.map aSis, aLaid p (fs.set i f) (mReplaced ss lay i f).2) ∧ SsV (mReplaced ss lay i f).1 ∧ LayV p (fs.set i f) (mReplaced ss lay i f).2 := by
  obtain ⟨q1, q2, q3⟩ := fld_ok hf
  have hi : i < fs.length := by
    rcases Nat.lt_or_ge i fs.length with h | h
    · exact h
    · rw [List.getElem?_eq_none h] at hg; cases hg
  cases lay with
  | none =>
    refine ⟨?_, S, fun s h => by cases h⟩
    simp [aLaid, VbjjShape.stored, mReplaced, aThing, List.map_set]
  | some s =>
    have V := lay_shp L hp F rfl
    obtain ⟨e1, e2⟩ := L s rfl
    have hx : s.slots[i]? = some (s.slots[i]'(by rw [e2.length]; exact hi)) := List.getElem?_eq_getElem _
    generalize s.slots[i]'(by rw [e2.length]; exact hi) = x at hx
    obtain ⟨x1, x2, x3, x4⟩ := fits_get e2 hx hg
    have X := V.sl x (List.mem_of_getElem? hx)
    have hx' : (aShp s).slots[i]? = some (aSlt x) := by simp [aShp, hx]
    have B := aBit_inj X.rd q2
    have V' : ShpV fs.length ⟨s.proto, s.slots.take i⟩ := ⟨V.pr, fun y hy => V.sl y (List.mem_of_mem_take hy), Nat.le_trans (by simp; omega) V.ln⟩
    have eb : (⟨(aShp s).prototype, (aShp s).slots.take i⟩ : Shape) = aShp ⟨s.proto, s.slots.take i⟩ := by simp [aShp, List.map_take]
    by_cases c : x.rd = f.rd
    · have c' : (aSlt x).isReader = (aFld f).isReader := B.2 c
      have E : VbjjShape.sisterOf (ss.map aSis) (aShp ⟨s.proto, s.slots.take i⟩) (aFld f).name (aFld f).isReader = _ := sisterOf_a S V' q1 q2
      have tail : aLaid p (fs.set i f) (some ⟨s.proto, s.slots.set i ⟨f.name, f.rd, mJoined x.kind f.val⟩⟩) = Laid.shaped ⟨(aShp s).prototype, (aShp s).slots.set i ⟨(aFld f).name, (aFld f).isReader, VbjjShape.joined (aSlt x).kind (aFld f).content⟩⟩ ((fs.map fun f => aVal f.val).set i (aFld f).content) := by
        rw [show (aFld f).content = aVal f.val from rfl, show (aSlt x).kind = aKd x.kind from rfl, joined_a X.kd q3]
        simp [aLaid, aShp, aSlt, aFld, List.map_set]
      have LV : LayV p (fs.set i f) (some ⟨s.proto, s.slots.set i ⟨f.name, f.rd, mJoined x.kind f.val⟩⟩) := by
        intro t ht
        cases ht
        exact ⟨e1, fits_set e2 rfl rfl (joined_kv X.kd q3) (joined_has _ _)⟩
      cases h : mSisPlace ss ⟨s.proto, s.slots.take i⟩ f.name f.rd with
      | none =>
        have e : mReplaced ss (some s) i f = (ss, some ⟨s.proto, s.slots.set i ⟨f.name, f.rd, mJoined x.kind f.val⟩⟩) := by
          simp only [mReplaced, hx, if_pos c, h]
        rw [e]
        refine ⟨?_, S, LV⟩
        rw [tail]
        rw [h] at E
        simp only [aLaid, VbjjShape.stored, hx', if_pos c', eb, E, Option.bind_none]
      | some j =>
        have e : mReplaced ss (some s) i f = (mRisen ss j f.val, some ⟨s.proto, s.slots.set i ⟨f.name, f.rd, mJoined x.kind f.val⟩⟩) := by
          simp only [mReplaced, hx, if_pos c, h]
        rw [e]
        obtain ⟨y, hy, _⟩ := sis_at h
        have Y := S.si y (List.mem_of_getElem? hy)
        refine ⟨?_, risen_ss S hy q3, LV⟩
        rw [tail]
        have W := withSister_a S V' q1 q2 h hy (mJoined y.kind f.val)
        rw [← joined_a Y.kd q3, ← risen_at hy] at W
        have W' : VbjjShape.withSister (ss.map aSis) (aShp ⟨s.proto, s.slots.take i⟩) (aFld f).name (aFld f).isReader (VbjjShape.joined (aKd y.kind) (aFld f).content) = _ := W
        rw [h, Option.bind_some, hy, Option.map_some] at E
        simp only [aLaid, VbjjShape.stored, hx', if_pos c', eb, E, W']
    · have c' : ¬ (aSlt x).isReader = (aFld f).isReader := fun e => c (B.1 e)
      have e : mReplaced ss (some s) i f = (ss, some ⟨s.proto, s.slots.set i ⟨f.name, f.rd, .cst f.val⟩⟩) := by
        simp only [mReplaced, hx, if_neg c]
      rw [e]
      refine ⟨?_, S, ?_⟩
      · simp only [aLaid, VbjjShape.stored, hx', if_neg c']
        simp [aShp, aSlt, aFld, aKd, List.map_set]
      · intro t ht
        cases ht
        exact ⟨e1, fits_set e2 rfl rfl q3 (by simp [mHas])⟩
theorem erase_filter : ∀ {fs : List Fld} {n : Int} {i : Nat} {g : Fld}, (∀ f ∈ fs, mIsField f = true) → mIsName n = true → (fs.map Fld.name).Nodup → fs[i]? = some g → g.name = n → ((fs.map aFld).filter fun f => f.name != aName n) = (fs.eraseIdx i).map aFld
  | [], _, _, _, _, _, _, h, _ => by simp at h
  | f :: fs, n, i, g, F, hn, N, h, e => by
    rw [List.map_cons, List.nodup_cons] at N
    have Ff := (fld_ok (F f List.mem_cons_self)).1
    cases i with
    | zero =>
      simp only [List.getElem?_cons_zero, Option.some.injEq] at h
      subst h
      have q : ((fs.map aFld).filter fun f => f.name != aName n) = fs.map aFld := by
        rw [List.filter_eq_self]
        intro x hx
        obtain ⟨y, hy, rfl⟩ := List.mem_map.1 hx
        have Y := (fld_ok (F y (List.mem_cons_of_mem _ hy))).1
        have : ¬ y.name = n := fun z => N.1 (List.mem_map.2 ⟨y, hy, by rw [z, e]⟩)
        have := fun z => this ((aName_inj Y hn).1 z)
        simpa [aFld] using this
      simp only [List.map_cons, List.eraseIdx_cons_zero]
      rw [List.filter_cons_of_neg (by simp [aFld, e]), q]
    | succ i =>
      simp only [List.getElem?_cons_succ] at h
      have : ¬ f.name = n := fun z => N.1 (List.mem_map.2 ⟨g, List.mem_of_getElem? h, by rw [z, e]⟩)
      have := fun z => this ((aName_inj Ff hn).1 z)
      simp only [List.map_cons, List.eraseIdx_cons_succ]
      rw [List.filter_cons_of_pos (by simpa [aFld] using this), erase_filter (fun x hx => F x (List.mem_cons_of_mem _ hx)) hn N.2 h e]
theorem name_once {fs : List Fld} {i j : Nat} {g h : Fld} (N : (fs.map Fld.name).Nodup) (hi : fs[i]? = some g) (hj : fs[j]? = some h) (e : g.name = h.name) : i = j := by
  have li : i < fs.length := by
    rcases Nat.lt_or_ge i fs.length with q | q
    · exact q
    · rw [List.getElem?_eq_none q] at hi; cases hi
  have lj : j < fs.length := by
    rcases Nat.lt_or_ge j fs.length with q | q
    · exact q
    · rw [List.getElem?_eq_none q] at hj; cases hj
  have N' := List.pairwise_iff_getElem.1 N
  have gi : fs[i] = g := by rw [List.getElem?_eq_getElem li] at hi; exact Option.some.inj hi
  have gj : fs[j] = h := by rw [List.getElem?_eq_getElem lj] at hj; exact Option.some.inj hj
  rcases Nat.lt_trichotomy i j with c | c | c
  · have q := N' i j (by simpa using li) (by simpa using lj) c
    simp [gi, gj, e] at q
  · exact c
  · have q := N' j i (by simpa using lj) (by simpa using li) c
    simp [gi, gj, e] at q
theorem without_a {p n : Int} {fs : List Fld} {lay : Option Shp} {g : Fld} {i : Nat} (hp : -1 ≤ p) (L : LayV p fs lay) (F : ∀ f ∈ fs, mIsField f = true) (N : (fs.map Fld.name).Nodup) (hn : mIsName n = true) (hg : fs[i]? = some g) (e : g.name = n) :
    VbjjShape.withoutSlot (aLaid p fs lay) (aName n) = aLaid p (fs.eraseIdx i) (mRemoved lay i) ∧ LayV p (fs.eraseIdx i) (mRemoved lay i) := by
  have hi : i < fs.length := by
    rcases Nat.lt_or_ge i fs.length with h | h
    · exact h
    · rw [List.getElem?_eq_none h] at hg; cases hg
  have EF := erase_filter F hn N hg e
  cases lay with
  | none =>
    refine ⟨?_, fun s h => by cases h⟩
    simp [aLaid, VbjjShape.withoutSlot, mRemoved, aThing, EF]
  | some s =>
    have V := lay_shp L hp F rfl
    have P := plain_a L
    obtain ⟨e1, e2⟩ := L s rfl
    have hl := e2.length
    have last : s.slots.getLast? = s.slots[fs.length - 1]? := by rw [List.getLast?_eq_getElem?, hl]
    have hx : s.slots[fs.length - 1]? = some (s.slots[fs.length - 1]'(by omega)) := List.getElem?_eq_getElem _
    generalize s.slots[fs.length - 1]'(by omega) = x at hx
    have hh : fs[fs.length - 1]? = some (fs[fs.length - 1]'(by omega)) := List.getElem?_eq_getElem _
    generalize fs[fs.length - 1]'(by omega) = h at hh
    obtain ⟨x1, x2, x3, x4⟩ := fits_get e2 hx hh
    have X := V.sl x (List.mem_of_getElem? hx)
    have la : ((aShp s).slots.getLast?).any (fun y => y.name == aName n) = decide (i = fs.length - 1) := by
      have : (aShp s).slots.getLast? = some (aSlt x) := by simp [aShp, List.getLast?_map, last, hx]
      rw [this]
      show (aName x.name == aName n) = _
      by_cases c : i = fs.length - 1
      · subst c
        rw [hg] at hh
        cases hh
        simp [x1, e]
      · have : ¬ x.name = n := fun z => c (name_once N hg hh (by rw [e, ← z, x1]))
        have : ¬ aName x.name = aName n := fun z => this ((aName_inj X.nm hn).1 z)
        simp [c, this]
    by_cases c : i = fs.length - 1
    · have r : mRemoved (some s) i = some ⟨s.proto, s.slots.take i⟩ := by
        simp only [mRemoved]
        rw [if_neg (by omega)]
      have de : fs.eraseIdx i = fs.take i := by
        rw [c, List.eraseIdx_eq_take_drop_succ, List.drop_eq_nil_of_le (by omega), List.append_nil]
      rw [r, de]
      refine ⟨?_, ?_⟩
      · simp only [aLaid, VbjjShape.withoutSlot, la, decide_eq_true c, if_true]
        simp [aShp, List.dropLast_eq_take, hl, c, List.map_take]
      · intro t ht
        cases ht
        exact ⟨e1, fits_take e2⟩
    · have r : mRemoved (some s) i = none := by
        simp only [mRemoved]
        rw [if_pos (by omega)]
      have hs : VbjjShape.slotOf (aShp s) (aName n) ≠ none := by
        have hy : s.slots[i]? = some (s.slots[i]'(by omega)) := List.getElem?_eq_getElem _
        generalize s.slots[i]'(by omega) = y at hy
        obtain ⟨y1, _⟩ := fits_get e2 hy hg
        intro z
        unfold VbjjShape.slotOf at z
        rw [List.findIdx?_eq_none_iff] at z
        have := z (aSlt y) (by simp only [aShp]; exact List.mem_map.2 ⟨y, List.mem_of_getElem? hy, rfl⟩)
        simp [aSlt, y1, e] at this
      rw [r]
      refine ⟨?_, fun s h => by cases h⟩
      have hs' : (VbjjShape.slotOf (aShp s) (aName n)).isNone = false := by
        cases z : VbjjShape.slotOf (aShp s) (aName n) with
        | none => exact absurd z hs
        | some _ => rfl
      simp only [aLaid] at P
      simp only [aLaid, VbjjShape.withoutSlot, la, decide_eq_false c, hs', Bool.false_eq_true, if_false, P]
      simp [aThing, EF]
theorem linked_a {p q : Int} {fs : List Fld} {lay : Option Shp} (L : LayV p fs lay) : VbjjShape.relinked (aLaid p fs lay) (aP q) = aLaid q fs (mLinked lay q) ∧ LayV q fs (mLinked lay q) := by
  cases lay with
  | none => exact ⟨rfl, fun s h => by cases h⟩
  | some s =>
    refine ⟨rfl, ?_⟩
    intro t ht
    cases ht
    exact ⟨rfl, (L s rfl).2⟩
theorem const_fits : ∀ {fs : List Fld}, (∀ f ∈ fs, mIsField f = true) → Fits (mConst fs) fs
  | [], _ => .nil
  | f :: fs, F => .cons rfl rfl (fld_ok (F f List.mem_cons_self)).2.2 (by simp [mHas]) (const_fits fun g hg => F g (List.mem_cons_of_mem _ hg))
theorem settled_a {p : Int} {fs : List Fld} (F : ∀ f ∈ fs, mIsField f = true) : VbjjShape.settledThing (aThing p fs) = aLaid p fs (some ⟨p, mConst fs⟩) ∧ LayV p fs (some ⟨p, mConst fs⟩) := by
  refine ⟨?_, ?_⟩
  · simp [VbjjShape.settledThing, aThing, aLaid, aShp, mConst, aSlt, aFld, aKd]
  · intro t ht
    cases ht
    exact ⟨rfl, const_fits F⟩
end Sb
end
section
set_option Elab.async false
set_option linter.all false
set_option maxRecDepth 100000
set_option maxHeartbeats 4000000
/-! ### along prototypes -/
namespace Sb
open VbjjPlain (Value Field Thing Heap)
open VbjjShape (Kind Slot Shape Laid Layout Sister)
def nx (ts : List Thg) (a : Int) : Int := (ts[a.toNat]?).map Thg.proto |>.getD (-1)
theorem line_succ (ts : List Thg) (n : Nat) (a : Int) (h : 0 ≤ a) : mLine ts (n + 1) a = a :: mLine ts n (nx ts a) := by
  rw [mLine, if_pos h]
  rfl
theorem line_neg (ts : List Thg) : ∀ (n : Nat) (a : Int), a < 0 → mLine ts n a = []
  | 0, _, _ => rfl
  | n + 1, a, h => by
    rw [mLine, if_neg (by omega)]
    exact line_neg ts n a h
def Dep (ts : List Thg) : Nat → Int → Prop
  | 0, a => a < 0
  | k + 1, a => 0 ≤ a → Dep ts k (nx ts a)
theorem dep_neg (ts : List Thg) : ∀ (k : Nat) (a : Int), a < 0 → Dep ts k a
  | 0, _, h => h
  | k + 1, a, h => fun h' => absurd h' (by omega)
theorem line_stable {ts : List Thg} : ∀ {k m : Nat} {a : Int}, Dep ts k a → k ≤ m → mLine ts m a = mLine ts k a
  | 0, m, a, h, _ => by rw [line_neg ts m a h, line_neg ts 0 a h]
  | k + 1, 0, a, h, q => by omega
  | k + 1, m + 1, a, h, q => by
    by_cases c : 0 ≤ a
    · rw [line_succ ts m a c, line_succ ts k a c, line_stable (h c) (by omega)]
    · rw [line_neg ts _ a (by omega), line_neg ts _ a (by omega)]
theorem line_full {ts : List Thg} : ∀ {k : Nat} {a : Int}, ¬ Dep ts k a → (mLine ts (k + 1) a).length = k + 1
  | 0, a, h => by
    unfold Dep at h
    rw [line_succ ts 0 a (by omega)]
    rfl
  | k + 1, a, h => by
    unfold Dep at h
    by_cases c : 0 ≤ a
    · rw [line_succ ts (k + 1) a c, List.length_cons, line_full (fun d => h fun _ => d)]
    · exact absurd (fun c' => absurd c' c) h
def Rk (ts : List Thg) (rank : Nat → Nat) : Prop := ∀ (i : Nat) (t : Thg), ts[i]? = some t → 0 ≤ t.proto → rank t.proto.toNat < rank i
theorem nx_rank {ts : List Thg} {rank : Nat → Nat} (R : Rk ts rank) {a : Int} (h : 0 ≤ nx ts a) : rank (nx ts a).toNat < rank a.toNat := by
  unfold nx at h ⊢
  cases e : ts[a.toNat]? with
  | none => rw [e] at h; simp at h
  | some t =>
    rw [e] at h
    exact R a.toNat t e h
theorem line_rank {ts : List Thg} {rank : Nat → Nat} (R : Rk ts rank) : ∀ (k : Nat) (a : Int), ∀ h ∈ mLine ts k a, rank h.toNat ≤ rank a.toNat
  | 0, _, h, hh => by simp [mLine] at hh
  | k + 1, a, h, hh => by
    by_cases c : 0 ≤ a
    · rw [line_succ ts k a c] at hh
      rcases List.mem_cons.1 hh with rfl | hh
      · exact Nat.le_refl _
      · by_cases c2 : 0 ≤ nx ts a
        · exact Nat.le_trans (line_rank R k _ h hh) (Nat.le_of_lt (nx_rank R c2))
        · rw [line_neg ts k _ (by omega)] at hh
          simp at hh
    · rw [line_neg ts _ a (by omega)] at hh
      simp at hh
theorem line_nodup {ts : List Thg} {rank : Nat → Nat} (R : Rk ts rank) : ∀ (k : Nat) (a : Int), ((mLine ts k a).map Int.toNat).Nodup
  | 0, _ => by simp [mLine]
  | k + 1, a => by
    by_cases c : 0 ≤ a
    · rw [line_succ ts k a c, List.map_cons, List.nodup_cons]
      refine ⟨fun h => ?_, line_nodup R k _⟩
      obtain ⟨x, hx, e⟩ := List.mem_map.1 h
      by_cases c2 : 0 ≤ nx ts a
      · have h1 := line_rank R k _ x hx
        have h2 := nx_rank R c2
        rw [e] at h1
        omega
      · rw [line_neg ts k _ (by omega)] at hx
        simp at hx
    · rw [line_neg ts _ a (by omega)]
      simp
theorem nodup_le : ∀ (n : Nat) (l : List Nat), l.Nodup → (∀ x ∈ l, x < n) → l.length ≤ n
  | 0, l, _, h => by
    cases l with
    | nil => simp
    | cons a l => exact absurd (h a List.mem_cons_self) (by omega)
  | n + 1, l, N, h => by
    by_cases c : n ∈ l
    · have h1 := List.length_erase_of_mem c
      have h2 := nodup_le n (l.erase n) (N.erase n) fun x hx => by
        rw [N.mem_erase_iff] at hx
        have := h x hx.2
        omega
      have : 0 < l.length := List.length_pos_of_mem c
      omega
    · have := nodup_le n l N fun x hx => by
        have h1 := h x hx
        have h2 : ¬ x = n := fun e => c (e ▸ hx)
        omega
      omega
theorem dep_all {ts : List Thg} {rank : Nat → Nat} (R : Rk ts rank) (hp : ∀ t ∈ ts, t.proto < ts.length) {a : Int} (ha : a < ts.length) : Dep ts ts.length a := by
  refine Classical.byContradiction fun h => ?_
  have h1 := line_full h
  have h2 := nodup_le ts.length ((mLine ts (ts.length + 1) a).map Int.toNat) (line_nodup R _ a) fun x hx => by
    obtain ⟨y, hy, rfl⟩ := List.mem_map.1 hx
    exact (there_get (line_there hp _ a ha y hy)).1
  rw [List.length_map, h1] at h2
  omega
/-! heaps -/
structure ThsV (ts : List Thg) : Prop where
  th : ∀ t ∈ ts, ThgV ts.length t
  ac : ∃ rank : Nat → Nat, Rk ts rank
theorem ThsV.lt {ts : List Thg} (T : ThsV ts) : ∀ t ∈ ts, t.proto < ts.length := fun t h => (T.th t h).pr.2
theorem ThsV.dep {ts : List Thg} (T : ThsV ts) {a : Int} (ha : a < ts.length) : Dep ts ts.length a := by
  obtain ⟨rank, R⟩ := T.ac
  exact dep_all R T.lt ha
def hp (ts : List Thg) : Heap := { VbjjPlain.emptyHeap with things := ts.map fun t => aThing t.proto t.fields }
theorem heap_a {st : Stt} (T : ThsV st.1) : VbjjShape.plainHeap (aS st) = hp st.1 := by
  have : (aS st).laid.map VbjjShape.plainOf = st.1.map fun t => aThing t.proto t.fields := by
    show (st.1.map aThg).map VbjjShape.plainOf = _
    rw [List.map_map]
    exact List.map_congr_left fun t ht => plain_a (T.th t ht).ly
  show { (aS st).rest with things := (aS st).laid.map VbjjShape.plainOf } = _
  rw [this]
  rfl
theorem thing_a (ts : List Thg) (n : Nat) : VbjjPlain.thingAt (hp ts) n = aThing (thAt ts n).proto (thAt ts n).fields := by
  show (ts.map fun t => aThing t.proto t.fields).getD n ⟨none, []⟩ = _
  unfold thAt
  rw [Int.toNat_natCast, List.getD_eq_getElem?_getD, List.getElem?_map]
  cases ts[n]? <;> rfl
theorem th_fields {ts : List Thg} (T : ThsV ts) (a : Int) : ∀ f ∈ (thAt ts a).fields, mIsField f = true := by
  unfold thAt
  cases e : ts[a.toNat]? with
  | none => simp
  | some t => exact (T.th t (List.mem_of_getElem? e)).fl
theorem name_q {f : Fld} {w : Int} (hf : mIsField f = true) (hw : mIsName w = true) : ((aFld f).name == aName w) = decide (f.name = w) := by
  have := aName_inj (fld_ok hf).1 hw
  by_cases c : f.name = w
  · simp [aFld, c]
  · have h : ¬ aName f.name = aName w := fun e => c (this.1 e)
    simp [aFld, c, h]
theorem find_a {fs : List Fld} {w : Int} (F : ∀ f ∈ fs, mIsField f = true) (hw : mIsName w = true) : (fs.map aFld).find? (fun f => f.name == aName w) = (mPlace fs w).bind fun i => (fs[i]?).map aFld := by
  unfold mPlace
  rw [findF_find (k := 0) (p := fun f => decide (f.name = w)) fun f hf => name_q (F f hf) hw]
  rfl
theorem place_a {fs : List Fld} {w : Int} (F : ∀ f ∈ fs, mIsField f = true) (hw : mIsName w = true) : (fs.map aFld).findIdx? (fun f => f.name == aName w) = mPlace fs w := by
  unfold mPlace
  rw [findF_idx (k := 0) (p := fun f => decide (f.name = w)) fun f hf => name_q (F f hf) hw]
  simp
theorem own_a {ts : List Thg} (T : ThsV ts) {w : Int} (hw : mIsName w = true) (n : Nat) : VbjjPlain.ownField (hp ts) n (aName w) = (mPlace (thAt ts n).fields w).bind fun i => ((thAt ts n).fields[i]?).map aFld := by
  unfold VbjjPlain.ownField
  rw [thing_a]
  exact find_a (th_fields T n) hw
theorem place_get {fs : List Fld} {w : Int} {i : Nat} (h : mPlace fs w = some i) : ∃ f, fs[i]? = some f ∧ f.name = w := by
  obtain ⟨f, _, h2, h3, _⟩ := findF_some h
  exact ⟨f, by simpa using h2, by simpa using h3⟩
theorem nx_th (ts : List Thg) (n : Nat) : nx ts (n : Int) = (thAt ts n).proto := by
  unfold nx thAt
  cases ts[(n : Int).toNat]? <;> rfl
theorem met_a {ts : List Thg} (T : ThsV ts) (a : Nat) : ∀ (k m b : Nat), Dep ts k (b : Int) → k ≤ m → VbjjPlain.isMet (hp ts) a m b = decide ((a : Int) ∈ mLine ts m (b : Int))
  | 0, m, b, h, _ => by unfold Dep at h; omega
  | k + 1, 0, b, h, q => by omega
  | k + 1, m + 1, b, h, q => by
    rw [line_succ ts m b (by omega), nx_th, VbjjPlain.isMet, thing_a]
    have e0 : (a == b) = decide ((a : Int) = (b : Int)) := by
      by_cases c : a = b
      · simp [c]
      · have : ¬ (a : Int) = (b : Int) := by omega
        rw [beq_eq_false_iff_ne.2 c, decide_eq_false this]
    have hd : Dep ts k (thAt ts b).proto := by rw [← nx_th]; exact h (by omega)
    by_cases c : (thAt ts b).proto < 0
    · have e1 : (aThing (thAt ts b).proto (thAt ts b).fields).prototype = none := by simp [aThing, aP, c]
      rw [e1, line_neg ts m _ c]
      simp only [e0, List.mem_cons, List.not_mem_nil, or_false, Bool.or_false]
    · obtain ⟨q1, hq⟩ : ∃ q1 : Nat, (thAt ts b).proto = (q1 : Int) := ⟨(thAt ts b).proto.toNat, by omega⟩
      have e1 : (aThing (thAt ts b).proto (thAt ts b).fields).prototype = some q1 := by simp [aThing, aP, c, hq]
      rw [e1, hq]
      rw [hq] at hd
      simp only [e0, met_a T a k m q1 hd (by omega), List.mem_cons, Bool.decide_or]
def told (c : Int) (h : Heap) (w : VbjjPlain.Bytes) (x : List Nat × Option (Nat × Field)) : List Int := 0 :: (match x.2 with
    | none => [0, c + (x.1.length : Int)]
    | some y => [1, c + (x.1.length : Int), (y.1 : Int), ((((VbjjPlain.thingAt h y.1).fields.findIdx fun f => f.name == w : Nat)) : Int), Vbjjac.flag y.2.isReader] ++ Vbjjac.valueFields y.2.content)
theorem told_more (c : Int) (h : Heap) (w : VbjjPlain.Bytes) (a : Nat) (x : List Nat × Option (Nat × Field)) : told c h w (a :: x.1, x.2) = told (c + 1) h w x := by
  obtain ⟨l, y⟩ := x
  cases y with
  | none => simp [told]; omega
  | some y => simp [told]; omega
theorem lookup_a {ts : List Thg} (T : ThsV ts) {w : Int} (hw : mIsName w = true) : ∀ (k m a : Nat) (c : Int), Dep ts k (a : Int) → k ≤ m → told c (hp ts) (aName w) (VbjjPlain.lookup (hp ts) (aName w) m a) = mFindL ts w c (mLine ts m (a : Int))
  | 0, m, b, c, h, _ => by unfold Dep at h; omega
  | k + 1, 0, b, c, h, q => by omega
  | k + 1, m + 1, b, c, h, q => by
    rw [line_succ ts m b (by omega), nx_th, VbjjPlain.lookup, own_a T hw, mFindL]
    have hd : Dep ts k (thAt ts b).proto := by rw [← nx_th]; exact h (by omega)
    cases e : mPlace (thAt ts b).fields w with
    | some i =>
      obtain ⟨f, hf, hn⟩ := place_get e
      obtain ⟨f1, f2, f3⟩ := fld_ok (th_fields T b f (List.mem_of_getElem? hf))
      have ep := place_a (th_fields T b) hw
      rw [e] at ep
      have e2 : ((thAt ts b).fields.map aFld).findIdx (fun f => f.name == aName w) = i := (List.findIdx?_eq_some_iff_findIdx_eq.1 ep).2
      simp only [Option.bind_some, hf, Option.map_some, told, thing_a]
      rw [show (aThing (thAt ts b).proto (thAt ts b).fields).fields = (thAt ts b).fields.map aFld from rfl, e2]
      rw [List.getD_eq_getElem?_getD, hf]
      simp only [aFld, flag_of f2, val_of f3, Option.getD_some]
      rfl
    | none =>
      simp only [Option.bind_none]
      by_cases c2 : (thAt ts b).proto < 0
      · have e1 : (VbjjPlain.thingAt (hp ts) b).prototype = none := by rw [thing_a]; simp [aThing, aP, c2]
        rw [e1, line_neg ts m _ c2]
        simp [told, mFindL]
      · obtain ⟨q1, hq⟩ : ∃ q1 : Nat, (thAt ts b).proto = (q1 : Int) := ⟨(thAt ts b).proto.toNat, by omega⟩
        have e1 : (VbjjPlain.thingAt (hp ts) b).prototype = some q1 := by rw [thing_a]; simp [aThing, aP, c2, hq]
        rw [e1, hq]
        rw [hq] at hd
        simp only []
        rw [told_more, lookup_a T hw k m q1 (c + 1) hd (by omega)]
/-! a prototype that is set -/
theorem rank_link {ts : List Thg} (T : ThsV ts) {a : Nat} {p : Int} {t t' : Thg} (hp : p < ts.length) (h : (a : Int) ∉ mLine ts ts.length p) (ht : ts[a]? = some t) (e : t'.proto = p) : ∃ rank : Nat → Nat, Rk (ts.set a t') rank := by
  obtain ⟨rank, R⟩ := T.ac
  have ha : a < ts.length := by
    rcases Nat.lt_or_ge a ts.length with h | h
    · exact h
    · rw [List.getElem?_eq_none h] at ht; cases ht
  refine ⟨fun x => if (a : Int) ∈ mLine ts ts.length (x : Int) then rank x + rank p.toNat + 1 else rank x, ?_⟩
  intro i u hu h0
  rw [List.getElem?_set] at hu
  by_cases c : a = i
  · subst c
    rw [if_pos rfl, if_pos ha] at hu
    cases hu
    subst e
    have e1 : ((t'.proto.toNat : Nat) : Int) = t'.proto := by omega
    have e2 : (a : Int) ∈ mLine ts ts.length (a : Int) := by
      obtain ⟨n, hn⟩ : ∃ n, ts.length = n + 1 := ⟨ts.length - 1, by omega⟩
      rw [hn, line_succ ts n _ (by omega)]
      exact List.mem_cons_self
    simp only [e1, if_neg h, if_pos e2]
    omega
  · rw [if_neg c] at hu
    have r := R i u hu h0
    have hi : i < ts.length := by
      rcases Nat.lt_or_ge i ts.length with h | h
      · exact h
      · rw [List.getElem?_eq_none h] at hu; cases hu
    have e1 : ((u.proto.toNat : Nat) : Int) = u.proto := by omega
    have en : nx ts (i : Int) = u.proto := by
      unfold nx
      rw [Int.toNat_natCast, hu]
      rfl
    have hq : (a : Int) ∈ mLine ts ts.length (i : Int) ↔ (a : Int) ∈ mLine ts ts.length u.proto := by
      have D := T.dep (a := (i : Int)) (by omega)
      obtain ⟨n, hn⟩ : ∃ n, ts.length = n + 1 := ⟨ts.length - 1, by omega⟩
      rw [hn] at D ⊢
      have D' := D (by omega)
      rw [en] at D'
      rw [line_succ ts n _ (by omega), en, line_stable D' (Nat.le_succ n), List.mem_cons]
      refine ⟨fun h => h.resolve_left (by omega), .inr⟩
    simp only [e1]
    by_cases c2 : (a : Int) ∈ mLine ts ts.length u.proto
    · simp only [if_pos c2, if_pos (hq.2 c2)]
      omega
    · simp only [if_neg c2, if_neg (fun z => c2 (hq.1 z))]
      exact r
theorem rank_same {ts us : List Thg} (h : us.map Thg.proto = ts.map Thg.proto) (R : ∃ rank : Nat → Nat, Rk ts rank) : ∃ rank : Nat → Nat, Rk us rank := by
  obtain ⟨rank, R⟩ := R
  refine ⟨rank, fun i t ht h0 => ?_⟩
  have q : (us.map Thg.proto)[i]? = some t.proto := by rw [List.getElem?_map, ht]; rfl
  rw [h, List.getElem?_map] at q
  cases e : ts[i]? with
  | none => rw [e] at q; cases q
  | some u =>
    rw [e] at q
    simp only [Option.map_some, Option.some.injEq] at q
    have := R i u e (by omega)
    rw [q] at this
    exact this
theorem rank_new {ts : List Thg} {t : Thg} (T : ThsV ts) (h : t.proto < ts.length) : ∃ rank : Nat → Nat, Rk (ts ++ [t]) rank := by
  obtain ⟨rank, R⟩ := T.ac
  refine ⟨fun i => if i < ts.length then rank i else rank t.proto.toNat + 1, fun i u hu h0 => ?_⟩
  rw [List.getElem?_append] at hu
  by_cases c : i < ts.length
  · rw [if_pos c] at hu
    have h1 := R i u hu h0
    have h2 := T.lt u (List.mem_of_getElem? hu)
    have h3 : u.proto.toNat < ts.length := by omega
    simp only [if_pos c, if_pos h3]
    exact h1
  · rw [if_neg c] at hu
    have : i - ts.length = 0 := by
      rcases Nat.eq_zero_or_pos (i - ts.length) with h | h
      · exact h
      · rw [List.getElem?_eq_none (by simp; omega)] at hu; cases hu
    rw [this] at hu
    simp only [List.getElem?_cons_zero, Option.some.injEq] at hu
    subst hu
    have h3 : t.proto.toNat < ts.length := by omega
    simp only [if_neg c, if_pos h3]
    omega
end Sb
end
section
set_option Elab.async false
set_option linter.all false
set_option maxRecDepth 100000
set_option maxHeartbeats 4000000
/-! ### lists of fields, claims -/
namespace Sb
open VbjjPlain (Value Field Thing Heap)
open VbjjShape (Kind Slot Shape Laid Layout Sister)
theorem nameOk_a (w : Int) : Vbjjac.isName w = mIsName w := by simp [Vbjjac.isName, Vbjjac.inRange, mIsName]
theorem bitOk_a (w : Int) : Vbjjac.inRange w 0 1 = mBit w := by simp [Vbjjac.inRange, mBit]
theorem listed_cons (w r k c : Int) (l : List Int) : mListed (w :: r :: k :: c :: l) = ⟨w, r, (k, c)⟩ :: mListed l := by
  unfold mListed
  have e : (w :: r :: k :: c :: l).length / 4 = l.length / 4 + 1 := by simp only [List.length_cons]; omega
  rw [e, List.range_succ_eq_map, List.map_cons, List.map_map]
  congr 1
  refine List.map_congr_left fun i _ => ?_
  show fAt _ ((i + 1) * 4) = fAt l (i * 4)
  unfold fAt
  rw [show (i + 1) * 4 = i * 4 + 4 by omega]
  rfl
theorem isList_cons (w r k c : Int) (l : List Int) : mIsList (w :: r :: k :: c :: l) = (mIsField ⟨w, r, (k, c)⟩ && mIsList l) := by
  unfold mIsList
  rw [listed_cons, List.all_cons]
  have e : decide ((w :: r :: k :: c :: l).length % 4 = 0) = decide (l.length % 4 = 0) := by
    simp only [List.length_cons]
    congr 1
    exact propext ⟨fun h => by omega, fun h => by omega⟩
  rw [e]
  cases decide (l.length % 4 = 0) <;> cases mIsField ⟨w, r, (k, c)⟩ <;> rfl
theorem fieldsFrom_a : ∀ l : List Int, Vbjjac.fieldsFrom l = if mIsList l = true then some ((mListed l).map aFld) else none
  | [] => rfl
  | [_] => rfl
  | [_, _] => rfl
  | [_, _, _] => rfl
  | w :: r :: k :: c :: l => by
    rw [isList_cons, listed_cons, Vbjjac.fieldsFrom, nameOk_a, bitOk_a, value_from, fieldsFrom_a l]
    by_cases h1 : mIsName w = true
    · by_cases h2 : mBit r = true
      · by_cases h3 : mIsValue (k, c) = true
        · by_cases h4 : mIsList l = true
          · simp [h1, h2, h3, h4, mIsField, aFld, Vbjjac.nameFrom, aName]
          · simp [h1, h2, h3, h4, mIsField]
        · simp [h1, h2, h3, mIsField]
      · simp [h1, h2, mIsField]
    · simp [h1, mIsField]
/-! names twice -/
theorem place_pre {pre l : List Fld} {f : Fld} : optI (mPlace (pre ++ f :: l) f.name) < (pre.length : Int) ↔ f.name ∈ pre.map Fld.name := by
  cases e : mPlace (pre ++ f :: l) f.name with
  | none =>
    have := findF_none.1 e f (by simp)
    simp at this
  | some i =>
    obtain ⟨g, _, h2, h3, h4⟩ := findF_some e
    simp only [Nat.sub_zero, decide_eq_true_eq] at h2 h3 h4
    simp only [optI]
    refine ⟨fun h => ?_, fun h => ?_⟩
    · rw [List.getElem?_append_left (by omega)] at h2
      exact List.mem_map.2 ⟨g, List.mem_of_getElem? h2, h3⟩
    · obtain ⟨x, hx, ex⟩ := List.mem_map.1 h
      obtain ⟨j, hj, ej⟩ := List.getElem_of_mem hx
      by_cases c : i < pre.length
      · omega
      · have := h4 j (by omega) x (by rw [List.getElem?_append_left hj, List.getElem?_eq_getElem hj, ej])
        simp [ex] at this
theorem twice_a : ∀ (l pre : List Fld), (pre.map Fld.name).Nodup → (mTwiceF (pre ++ l) pre.length l = false ↔ ((pre ++ l).map Fld.name).Nodup)
  | [], pre, N => by simp [mTwiceF, N]
  | f :: l, pre, N => by
    unfold mTwiceF
    by_cases c : f.name ∈ pre.map Fld.name
    · rw [decide_eq_true (place_pre.2 c)]
      simp only [Bool.true_or, Bool.true_eq_false, false_iff]
      intro h
      rw [List.map_append, List.nodup_append] at h
      exact h.2.2 f.name c f.name (by simp) rfl
    · rw [decide_eq_false fun h => c (place_pre.1 h), Bool.false_or]
      have ih := twice_a l (pre ++ [f]) (by
        rw [List.map_append, List.nodup_append]
        refine ⟨N, by simp, ?_⟩
        intro a ha b hb
        simp at hb
        subst hb
        exact fun e => c (e ▸ ha))
      simpa using ih
theorem twice_nodup (l : List Fld) : mTwice l = false ↔ (l.map Fld.name).Nodup := by
  have := twice_a l [] (by simp)
  simpa [mTwice] using this
theorem nodup_map_on {α β : Type} {g : α → β} {P : α → Prop} (inj : ∀ a b, P a → P b → g a = g b → a = b) : ∀ {l : List α}, (∀ a ∈ l, P a) → ((l.map g).Nodup ↔ l.Nodup)
  | [], _ => by simp
  | a :: l, h => by
    rw [List.map_cons, List.nodup_cons, List.nodup_cons, nodup_map_on inj fun x hx => h x (List.mem_cons_of_mem _ hx)]
    refine and_congr_left fun _ => not_congr ⟨fun q => ?_, fun q => List.mem_map.2 ⟨a, q, rfl⟩⟩
    obtain ⟨x, hx, e⟩ := List.mem_map.1 q
    rw [← inj x a (h x (List.mem_cons_of_mem _ hx)) (h a List.mem_cons_self) e]
    exact hx
theorem names_nodup {fs : List Fld} (F : ∀ f ∈ fs, mIsField f = true) : ((fs.map aFld).map fun f => f.name).Nodup ↔ (fs.map Fld.name).Nodup := by
  have e : ((fs.map aFld).map fun f => f.name) = (fs.map Fld.name).map aName := by simp [aFld]
  rw [e]
  refine nodup_map_on (P := fun n => mIsName n = true) (fun a b ha hb h => (aName_inj ha hb).1 h) ?_
  intro n hn
  obtain ⟨f, hf, rfl⟩ := List.mem_map.1 hn
  exact (fld_ok (F f hf)).1
/-! claims -/
theorem kindFrom_eq (x : Int) (l : List Int) : Vbjjac.kindFrom (x :: l) = if 1 ≤ x ∧ x ≤ 6 then some (aKd (.knd x), l) else if x = 0 then (match l with
    | k :: c :: rest => (Vbjjac.valueFrom k c).map fun v => (.constant v, rest)
    | _ => none) else none := by
  by_cases h : 1 ≤ x ∧ x ≤ 6
  · rw [if_pos h]
    rcases knd_cases h with rfl | rfl | rfl | rfl | rfl | rfl <;> rfl
  · rw [if_neg h]
    by_cases h0 : x = 0
    · subst h0
      rw [if_pos rfl]
      cases l with
      | nil => rfl
      | cons k l => cases l <;> rfl
    · rw [if_neg h0]
      unfold Vbjjac.kindFrom
      split <;> first | rfl | (rename_i e; simp at e; omega) | simp_all
theorem drop_none {cl : List Int} {i : Nat} (h : cl.length ≤ i) : cl.drop i = [] := List.drop_eq_nil_of_le h
theorem kindFrom_a (cl : List Int) (i : Nat) : Vbjjac.kindFrom (cl.drop i) = (kindEnd cl i).map fun e => (aKd (kindAt cl i), cl.drop e) := by
  by_cases hi : i < cl.length
  · rw [drop_cons hi, kindFrom_eq]
    by_cases h : 1 ≤ cAt cl i ∧ cAt cl i ≤ 6
    · have e1 : kindEnd cl i = some (i + 1) := by unfold kindEnd; rw [if_pos ⟨hi, h.1, h.2⟩]
      have e2 : kindAt cl i = .knd (cAt cl i) := by unfold kindAt; rw [if_pos h]
      rw [if_pos h, e1, e2]
      rfl
    · have e1 : kindEnd cl i = if i + 2 < cl.length ∧ cAt cl i = 0 ∧ mIsValue (cAt cl (i + 1), cAt cl (i + 2)) = true then some (i + 3) else none := by
        unfold kindEnd
        rw [if_neg fun q => h ⟨q.2.1, q.2.2⟩]
      have e2 : kindAt cl i = .cst (cAt cl (i + 1), cAt cl (i + 2)) := by unfold kindAt; rw [if_neg h]
      rw [if_neg h, e2]
      by_cases h0 : cAt cl i = 0
      · rw [if_pos h0]
        by_cases h2 : i + 2 < cl.length
        · rw [drop_cons (i := i + 1) (by omega), drop_cons (i := i + 2) h2]
          simp only [value_from]
          by_cases hv : mIsValue (cAt cl (i + 1), cAt cl (i + 2)) = true
          · rw [if_pos ⟨h2, h0, hv⟩] at e1
            rw [if_pos hv, e1]
            simp [aKd]
          · rw [if_neg fun q => hv q.2.2] at e1
            rw [if_neg hv, e1]
            rfl
        · rw [if_neg fun q => h2 q.1] at e1
          rw [e1]
          by_cases h1 : i + 1 < cl.length
          · rw [drop_cons h1, drop_none (by omega)]
            rfl
          · rw [drop_none (by omega)]
            rfl
      · rw [if_neg fun q => h0 q.2.1] at e1
        rw [if_neg h0, e1]
        rfl
  · have e1 : kindEnd cl i = none := by
      unfold kindEnd
      rw [if_neg fun q => hi q.1, if_neg fun q => by omega]
    rw [drop_none (by omega), e1]
    rfl
abbrev aSF (y : Slt × Fld) : Slot × Value := (aSlt y.1, aVal y.2.val)
theorem slotsFrom_a (cl : List Int) : ∀ (n i : Nat), Vbjjac.slotsFrom n (cl.drop i) = (mSlots cl n i).map fun x => (x.2.map aSF, cl.drop x.1)
  | 0, i => by
    unfold Vbjjac.slotsFrom mSlots
    rfl
  | n + 1, i => by
    have key : Vbjjac.slotsFrom (n + 1) (cl.drop i) = (slotEnd cl i).bind fun e => (Vbjjac.slotsFrom n (cl.drop e)).map fun y => (aSF (slotAt cl i, fieldAt cl i e) :: y.1, y.2) := by
      unfold slotEnd
      by_cases h1 : i + 1 < cl.length
      · rw [drop_cons (i := i) (by omega), drop_cons h1, Vbjjac.slotsFrom, nameOk_a, bitOk_a, kindFrom_a]
        by_cases c1 : mIsName (cAt cl i) = true
        · by_cases c2 : mBit (cAt cl (i + 1)) = true
          · rw [if_neg (by simp [c1, c2]), if_neg (by simp [c1, c2]; omega)]
            cases hk : kindEnd cl (i + 2) with
            | none => rfl
            | some e =>
              simp only [Option.map_some, Option.bind_some]
              by_cases h2 : e + 1 < cl.length
              · rw [drop_cons (i := e) (by omega), drop_cons h2]
                simp only [value_from]
                by_cases hv : mIsValue (cAt cl e, cAt cl (e + 1)) = true
                · rw [if_pos hv, if_neg (by simp [hv]; omega)]
                  simp only [Option.bind_some]
                  simp [aSF, slotAt, fieldAt, aSlt, Vbjjac.nameFrom, aName]
                · rw [if_neg hv, if_pos (.inr (by simpa using hv))]
                  rfl
              · rw [if_pos (.inl (by omega))]
                by_cases h3 : e < cl.length
                · rw [drop_cons h3, drop_none (by omega)]
                  rfl
                · rw [drop_none (by omega)]
                  rfl
          · rw [if_pos (by simp [c1, c2]), if_pos (.inr (.inr (by simpa using c2)))]
            rfl
        · rw [if_pos (by simp [c1]), if_pos (.inr (.inl (by simpa using c1)))]
          rfl
      · rw [if_pos (.inl (by omega))]
        by_cases h3 : i < cl.length
        · rw [drop_cons h3, drop_none (by omega)]
          rfl
        · rw [drop_none (by omega)]
          rfl
    rw [key]
    unfold mSlots
    cases hs : slotEnd cl i with
    | none => rfl
    | some e =>
      simp only [Option.bind_some]
      rw [slotsFrom_a cl n e]
      cases mSlots cl n e with
      | none => rfl
      | some x => rfl
theorem slotEnd_gt {cl : List Int} {i e : Nat} (h : slotEnd cl i = some e) : i < e := by
  obtain ⟨k, h1, h2, _⟩ := slotEnd_of h
  have := kindEnd_le h1
  omega
theorem mSlots_ge {cl : List Int} : ∀ {n i : Nat} {x : Nat × List (Slt × Fld)}, mSlots cl n i = some x → i ≤ x.1
  | 0, i, x, h => by cases h; exact Nat.le_refl _
  | n + 1, i, x, h => by
    unfold mSlots at h
    split at h
    · cases h
    · rename_i e he
      cases c : mSlots cl n e with
      | none => rw [c] at h; cases h
      | some y =>
        rw [c] at h
        cases h
        have h1 := mSlots_ge c
        have h2 := slotEnd_gt he
        show i ≤ y.1
        omega
def chosen (n : Nat) : Option (List Laid) → Option (List Laid)
  | none => none
  | some c => if c.length = n then some c else none
theorem chosen_cons (n : Nat) (x : Laid) (o : Option (List Laid)) : chosen (n + 1) (o.map fun l => x :: l) = (chosen n o).map fun l => x :: l := by
  cases o with
  | none => rfl
  | some l =>
    simp only [chosen, Option.map_some, List.length_cons]
    by_cases h : l.length = n <;> simp [h]
theorem chosen_zero (x : Laid) (o : Option (List Laid)) : chosen 0 (o.map fun l => x :: l) = none := by
  cases o <;> simp [chosen]
theorem head_cons (fuel : Nat) (cl : List Int) (i : Nat) (h : i + 1 < cl.length) : Vbjjac.claimFrom (fuel + 1) (cl.drop i) = (mThing cl i).bind fun x => (Vbjjac.claimFrom fuel (cl.drop x.1)).map fun l => aThg x.2 :: l := by
  rw [drop_cons (i := i) (by omega), drop_cons h, Vbjjac.claimFrom]
  unfold mThing mHead
  have e : (Vbjjac.inRange (cAt cl i) (-1) ((Vbjjac.maxObjects : Int) - 1) && Vbjjac.inRange (cAt cl (i + 1)) 0 8) = (decide (i + 1 < cl.length) && (decide (-1 ≤ cAt cl i ∧ cAt cl i ≤ 39) && decide (0 ≤ cAt cl (i + 1) ∧ cAt cl (i + 1) ≤ 8))) := by
    rw [show (Vbjjac.maxObjects : Int) - 1 = 39 from rfl]
    simp [Vbjjac.inRange, h]
  rw [e]
  cases q : (decide (i + 1 < cl.length) && (decide (-1 ≤ cAt cl i ∧ cAt cl i ≤ 39) && decide (0 ≤ cAt cl (i + 1) ∧ cAt cl (i + 1) ≤ 8))) with
  | false => rfl
  | true =>
    simp only [Bool.true_eq_false, if_false, if_true]
    rw [slotsFrom_a]
    cases mSlots cl (cAt cl (i + 1)).toNat (i + 2) with
    | none => rfl
    | some x =>
      simp only [Option.map_some, Option.bind_some]
      congr 1
      funext l
      simp [aThg, aLaid, aShp, aP, aSF]
theorem claim_nil (fuel : Nat) : Vbjjac.claimFrom fuel [] = some [] := by cases fuel <;> rfl
theorem claim_one (fuel : Nat) (x : Int) : Vbjjac.claimFrom fuel [x] = none := by cases fuel <;> rfl
theorem thing_ge {cl : List Int} {i : Nat} {x : Nat × Thg} (h : mThing cl i = some x) : i + 2 ≤ x.1 := by
  unfold mThing at h
  split at h
  · cases c : mSlots cl (cAt cl (i + 1)).toNat (i + 2) with
    | none => rw [c] at h; cases h
    | some y =>
      rw [c] at h
      cases h
      exact mSlots_ge c
  · cases h
theorem thing_head {cl : List Int} {i : Nat} (h : ¬ i + 1 < cl.length) : mThing cl i = none := by
  unfold mThing mHead
  simp [h]
theorem claims_a (cl : List Int) : ∀ (n fuel i : Nat), cl.length - i ≤ fuel → chosen n (Vbjjac.claimFrom fuel (cl.drop i)) = (mThings cl n i).bind fun x => if x.1 < cl.length then none else some (x.2.map aThg)
  | 0, fuel, i, hf => by
    unfold mThings
    simp only [Option.bind_some]
    by_cases h : i < cl.length
    · rw [if_pos h]
      by_cases h1 : i + 1 < cl.length
      · obtain ⟨f, rfl⟩ : ∃ f, fuel = f + 1 := ⟨fuel - 1, by omega⟩
        rw [head_cons f cl i h1]
        cases mThing cl i with
        | none => rfl
        | some x => exact chosen_zero _ _
      · rw [drop_cons h, drop_none (by omega), claim_one]
        rfl
    · rw [if_neg h, drop_none (by omega), claim_nil]
      rfl
  | n + 1, fuel, i, hf => by
    unfold mThings
    by_cases h : i + 1 < cl.length
    · obtain ⟨f, rfl⟩ : ∃ f, fuel = f + 1 := ⟨fuel - 1, by omega⟩
      rw [head_cons f cl i h]
      cases e : mThing cl i with
      | none => rfl
      | some x =>
        simp only [Option.bind_some]
        have := thing_ge e
        rw [chosen_cons, claims_a cl n f x.1 (by omega)]
        cases mThings cl n x.1 with
        | none => rfl
        | some y =>
          simp only [Option.bind_some, Option.map_some]
          by_cases c : y.1 < cl.length
          · rw [if_pos c, if_pos c]; rfl
          · rw [if_neg c, if_neg c]; rfl
    · rw [thing_head h]
      by_cases h1 : i < cl.length
      · rw [drop_cons h1, drop_none (by omega), claim_one]
        rfl
      · rw [drop_none (by omega), claim_nil]
        rfl
theorem claim_a (cl : List Int) (n : Nat) : chosen n (Vbjjac.claimFrom cl.length cl) = (mClaim cl n).map fun l => l.map aThg := by
  have := claims_a cl n cl.length 0 (by omega)
  rw [List.drop_zero] at this
  rw [this]
  unfold mClaim
  cases mThings cl n 0 with
  | none => rfl
  | some x =>
    simp only [Option.bind_some]
    by_cases c : x.1 < cl.length
    · rw [if_pos c, if_pos c]; rfl
    · rw [if_neg c, if_neg c]; rfl
end Sb
end
section
set_option Elab.async false
set_option linter.all false
set_option maxRecDepth 100000
set_option maxHeartbeats 4000000
/-! ### the judge, how many shapes -/
namespace Sb
open VbjjPlain (Value Field Thing Heap)
open VbjjShape (Kind Slot Shape Laid Layout Sister)
theorem laid_a (st : Stt) (n : Nat) : VbjjShape.laidAt (aS st) n = aThg (thAt st.1 n) := by
  show (st.1.map aThg).getD n _ = _
  unfold thAt
  rw [Int.toNat_natCast, List.getD_eq_getElem?_getD, List.getElem?_map]
  cases st.1[n]? <;> rfl
theorem shapeOf_laid (t : Thg) : (match aThg t with
  | .shaped s _ => some s
  | .loose _ => none : Option Shape) = t.lay.map aShp := by
  unfold aThg aLaid
  cases t.lay <;> rfl
theorem shapeOf_a (st : Stt) (n : Nat) : VbjjShape.shapeOf (aS st) n = (thAt st.1 n).lay.map aShp := by
  unfold VbjjShape.shapeOf
  rw [laid_a]
  exact shapeOf_laid _
theorem range_th (ts : List Thg) : ((List.range ts.length).map fun i => thAt ts (i : Nat)) = ts := by
  apply List.ext_getElem?
  intro i
  rw [List.getElem?_map]
  by_cases h : i < ts.length
  · rw [List.getElem?_range h]
    simp only [Option.map_some, thAt, Int.toNat_natCast]
    rw [List.getElem?_eq_getElem h]
    rfl
  · rw [List.getElem?_eq_none (by simp; omega), List.getElem?_eq_none (by omega)]
    rfl
theorem dups_loop : ∀ (l : List (Option Shp)) (seen : List Shp), (∀ s ∈ seen, ShpV 8 s) → (∀ s, some s ∈ l → ShpV 8 s) → (List.eraseDupsBy.loop (· == ·) ((l.filterMap id).map aShp) (seen.reverse.map aShp)).length = (mSeen seen l).length
  | [], seen, _, _ => by simp [List.eraseDupsBy.loop, mSeen]
  | none :: l, seen, hs, hl => by
    have ih := dups_loop l seen hs fun s h => hl s (List.mem_cons_of_mem _ h)
    simpa [mSeen] using ih
  | some a :: l, seen, hs, hl => by
    have ha := hl a List.mem_cons_self
    have e : (seen.reverse.map aShp).any (fun b => aShp a == b) = decide (a ∈ seen) := by
      by_cases c : a ∈ seen
      · rw [decide_eq_true c, List.any_eq_true]
        exact ⟨aShp a, List.mem_map.2 ⟨a, List.mem_reverse.2 c, rfl⟩, by simp⟩
      · rw [decide_eq_false c, List.any_eq_false]
        intro x hx
        obtain ⟨y, hy, rfl⟩ := List.mem_map.1 hx
        have hy := List.mem_reverse.1 hy
        intro q
        have := (aShp_inj ha (hs y hy)).1 (by simpa using q)
        exact c (this ▸ hy)
    show (List.eraseDupsBy.loop (· == ·) (aShp a :: (l.filterMap id).map aShp) (seen.reverse.map aShp)).length = (mSeen (if a ∈ seen then seen else seen ++ [a]) l).length
    rw [List.eraseDupsBy.loop, e]
    by_cases c : a ∈ seen
    · rw [decide_eq_true c, if_pos c]
      exact dups_loop l seen hs fun s h => hl s (List.mem_cons_of_mem _ h)
    · rw [decide_eq_false c, if_neg c]
      have ih := dups_loop l (seen ++ [a]) (fun s h => by
        rcases List.mem_append.1 h with h | h
        · exact hs s h
        · simp at h; rw [h]; exact ha) fun s h => hl s (List.mem_cons_of_mem _ h)
      simpa using ih
theorem shapes_a (st : Stt) (V : ∀ t ∈ st.1, ∀ s, t.lay = some s → ShpV 8 s) : (Vbjjac.shapesOf (aS st)).length = (mSeen [] (st.1.map Thg.lay)).length := by
  have e : ((List.range (aS st).laid.length).filterMap (VbjjShape.shapeOf (aS st))) = ((st.1.map Thg.lay).filterMap id).map aShp := by
    have e1 : (aS st).laid.length = st.1.length := by simp [aS]
    have e2 : VbjjShape.shapeOf (aS st) = fun i : Nat => (thAt st.1 (i : Nat)).lay.map aShp := funext (shapeOf_a st)
    rw [e1, e2]
    have : (fun i : Nat => (thAt st.1 (i : Nat)).lay.map aShp) = (fun t : Thg => t.lay.map aShp) ∘ fun i : Nat => thAt st.1 (i : Nat) := rfl
    rw [this, ← List.filterMap_map, range_th, List.filterMap_map]
    rw [List.map_filterMap]
    rfl
  unfold Vbjjac.shapesOf
  rw [e]
  exact dups_loop _ [] (by simp) fun s h => by
    obtain ⟨t, ht, hs⟩ := List.mem_map.1 h
    exact V t ht s hs
inductive Lies : List Slt → List Fld → Prop
  | nil : Lies [] []
  | cons {x : Slt} {f : Fld} {xs : List Slt} {fs : List Fld} : x.name = f.name → x.rd = f.rd → SltV x → mIsField f = true → Lies xs fs → Lies (x :: xs) (f :: fs)
structure Cl (c : Thg) : Prop where
  pr : -1 ≤ c.proto
  ex : ∃ s, c.lay = some s ∧ s.proto = c.proto ∧ Lies s.slots c.fields
  ln : c.fields.length ≤ 8
theorem Lies.length : ∀ {xs : List Slt} {fs : List Fld}, Lies xs fs → xs.length = fs.length
  | _, _, .nil => rfl
  | _, _, .cons _ _ _ _ h => by simp [h.length]
theorem Lies.sl : ∀ {xs : List Slt} {fs : List Fld}, Lies xs fs → ∀ x ∈ xs, SltV x
  | _, _, .nil, x, hx => by simp at hx
  | _, _, .cons _ _ h3 _ h, x, hx => by
    rcases List.mem_cons.1 hx with rfl | hx
    · exact h3
    · exact h.sl x hx
theorem Lies.fl : ∀ {xs : List Slt} {fs : List Fld}, Lies xs fs → ∀ x ∈ fs, mIsField x = true
  | _, _, .nil, x, hx => by simp at hx
  | _, _, .cons _ _ _ h4 h, x, hx => by
    rcases List.mem_cons.1 hx with rfl | hx
    · exact h4
    · exact h.fl x hx
theorem Lies.zip_a : ∀ {xs : List Slt} {fs : List Fld}, Lies xs fs → (((xs.map aSlt).zip (fs.map fun f => aVal f.val)).map fun x => (⟨x.1.name, x.2, x.1.isReader⟩ : Field)) = fs.map aFld
  | _, _, .nil => rfl
  | _, _, .cons (x := x) (f := f) h1 h2 h3 h4 h5 => by
    simp only [List.map_cons, List.zip_cons_cons, h5.zip_a]
    simp [aSlt, aFld, h1, h2]
theorem Lies.names : ∀ {xs : List Slt} {fs : List Fld}, Lies xs fs → ((xs.map aSlt).map fun x => x.name) = (fs.map aFld).map fun f => f.name
  | _, _, .nil => rfl
  | _, _, .cons (x := x) (f := f) h1 h2 h3 h4 h5 => by
    simp only [List.map_cons, h5.names]
    simp [aSlt, aFld, h1]
theorem Lies.kinds : ∀ {xs : List Slt} {fs : List Fld}, Lies xs fs → (((xs.map aSlt).zip (fs.map fun f => aVal f.val)).all fun x => VbjjShape.hasKind x.1.kind x.2) = mHasValues xs fs
  | _, _, .nil => rfl
  | _, _, .cons (x := x) (f := f) h1 h2 h3 h4 h5 => by
    have e : VbjjShape.hasKind (aSlt x).kind (aVal f.val) = mHas x.kind f.val := has_a h3.kd (fld_ok h4).2.2
    have ih := h5.kinds
    unfold mHasValues at ih ⊢
    simp only [List.map_cons, List.zip_cons_cons, List.all_cons, e, ih]
theorem mSlots_lies {cl : List Int} : ∀ {n i : Nat} {x : Nat × List (Slt × Fld)}, mSlots cl n i = some x → Lies (x.2.map Prod.fst) (x.2.map Prod.snd)
  | 0, i, x, h => by cases h; exact .nil
  | n + 1, i, x, h => by
    unfold mSlots at h
    split at h
    · cases h
    · rename_i e he
      cases c : mSlots cl n e with
      | none => rw [c] at h; cases h
      | some y =>
        rw [c] at h
        cases h
        obtain ⟨k, h1, h2, h3, h4, h5, h6, h7⟩ := slotEnd_of he
        refine .cons rfl rfl ⟨h5, h6, (kind_cut h1).2⟩ ?_ (mSlots_lies c)
        subst h2
        show mIsField ⟨cAt cl i, cAt cl (i + 1), (cAt cl (k + 2 - 2), cAt cl (k + 2 - 1))⟩ = true
        rw [show k + 2 - 2 = k by omega, show k + 2 - 1 = k + 1 by omega]
        simp [mIsField, h5, h6, h7]
theorem mThing_cl {cl : List Int} {i : Nat} {x : Nat × Thg} (h : mThing cl i = some x) : Cl x.2 := by
  unfold mThing at h
  split at h
  · rename_i hh
    cases c : mSlots cl (cAt cl (i + 1)).toNat (i + 2) with
    | none => rw [c] at h; cases h
    | some y =>
      rw [c] at h
      cases h
      unfold mHead at hh
      simp only [Bool.and_eq_true, decide_eq_true_eq] at hh
      refine ⟨hh.2.1.1, ⟨_, rfl, rfl, mSlots_lies c⟩, ?_⟩
      show (y.2.map Prod.snd).length ≤ 8
      rw [List.length_map, mSlots_len c]
      omega
  · cases h
theorem mThings_cl {cl : List Int} : ∀ {n i : Nat} {x : Nat × List Thg}, mThings cl n i = some x → ∀ c ∈ x.2, Cl c
  | 0, i, x, h, c, hc => by cases h; simp at hc
  | n + 1, i, x, h, c, hc => by
    unfold mThings at h
    split at h
    · cases h
    · rename_i y hy
      cases e : mThings cl n y.1 with
      | none => rw [e] at h; cases h
      | some z =>
        rw [e] at h
        cases h
        rcases List.mem_cons.1 hc with rfl | hc
        · exact mThing_cl hy
        · exact mThings_cl e c hc
theorem mClaim_cl {cl : List Int} {n : Nat} {l : List Thg} (h : mClaim cl n = some l) : ∀ c ∈ l, Cl c := by
  unfold mClaim at h
  split at h
  · cases h
  · rename_i x hx
    split at h
    · cases h
    · cases h
      exact mThings_cl hx
theorem Cl.plain {c : Thg} (h : Cl c) : VbjjShape.plainOf (aThg c) = aThing c.proto c.fields := by
  obtain ⟨s, e1, e2, e3⟩ := h.ex
  simp only [aThg, e1, aLaid, VbjjShape.plainOf, aShp, aThing, e2, e3.zip_a]
theorem Cl.laid {c : Thg} (h : Cl c) : VbjjShape.isLaid (aThg c) = ((match c.lay with | some s => mHasValues s.slots c.fields | none => true) && !mTwice c.fields) := by
  obtain ⟨s, e1, e2, e3⟩ := h.ex
  have N := twice_nodup c.fields
  have N2 := names_nodup e3.fl
  simp only [aThg, e1, aLaid, VbjjShape.isLaid, aShp]
  rw [e3.kinds]
  have hn : decide (((s.slots.map aSlt).map fun x => x.name).Nodup) = !mTwice c.fields := by
    rw [e3.names]
    cases q : mTwice c.fields with
    | true =>
      rw [Bool.not_true, decide_eq_false]
      intro z
      rw [N.2 (N2.1 z)] at q
      cases q
    | false => rw [Bool.not_false, decide_eq_true (N2.2 (N.1 q))]
  rw [hn]
  simp [e3.length]
theorem thing_inj {p q : Int} {fs gs : List Fld} (hp : -1 ≤ p) (hq : -1 ≤ q) (F : ∀ f ∈ fs, mIsField f = true) (G : ∀ f ∈ gs, mIsField f = true) : aThing p fs = aThing q gs ↔ p = q ∧ fs = gs := by
  refine ⟨fun h => ?_, fun h => by rw [h.1, h.2]⟩
  unfold aThing at h
  simp only [Thing.mk.injEq] at h
  exact ⟨(aP_inj hp hq).1 h.1, map_inj_on (P := fun f => mIsField f = true) (fun a b x y e => (aFld_inj x y).1 e) F G h.2⟩
def specFault (e : Layout) (claim : List Laid) (a : Nat) : Option (Nat × Nat) := match claim[a]? with
  | none => some (a, 1)
  | some x => if VbjjShape.isLaid x = false then some (a, 1) else if VbjjShape.plainOf x ≠ VbjjShape.plainOf (VbjjShape.laidAt e a) then some (a, 2) else none
theorem fault_a {st : Stt} (T : ThsV st.1) {cs : List Thg} (hc : ∀ c ∈ cs, Cl c) {k : Nat} {t : Thg} (ht : st.1[k]? = some t) (hl : k < cs.length) : specFault (aS st) (cs.map aThg) k = if 0 < mFault (cs.getD k t) t then some (k, (mFault (cs.getD k t) t).toNat) else none := by
  have hk : cs[k]? = some cs[k] := List.getElem?_eq_getElem hl
  have C := hc cs[k] (List.getElem_mem hl)
  generalize cs[k] = c at hk C
  have TT := T.th t (List.mem_of_getElem? ht)
  unfold specFault
  rw [List.getElem?_map, hk, laid_a, List.getD_eq_getElem?_getD, hk]
  have e1 : thAt st.1 (k : Nat) = t := by unfold thAt; rw [Int.toNat_natCast, ht]; rfl
  rw [e1]
  have e2 : VbjjShape.plainOf (aThg t) = aThing t.proto t.fields := plain_a TT.ly
  simp only [Option.map_some, Option.getD_some]
  rw [C.laid, C.plain, e2]
  obtain ⟨s, x1, x2, x3⟩ := C.ex
  have I := thing_inj C.pr TT.pr.1 x3.fl TT.fl
  unfold mFault
  rw [x1]
  simp only []
  by_cases h1 : mHasValues s.slots c.fields = false ∨ mTwice c.fields = true
  · rw [if_pos h1, if_pos, if_pos]
    · rfl
    · decide
    · rcases h1 with h1 | h1 <;> simp [h1]
  · rw [if_neg h1, if_neg]
    · by_cases h2 : c.proto ≠ t.proto ∨ c.fields ≠ t.fields
      · rw [if_pos h2, if_pos, if_pos (by decide)]
        · rfl
        · intro z
          have := I.1 z
          rcases h2 with h2 | h2
          · exact h2 this.1
          · exact h2 this.2
      · rw [if_neg h2, if_neg, if_neg (by decide)]
        · intro z
          refine z (I.2 ?_)
          refine ⟨Classical.byContradiction fun q => h2 (.inl q), Classical.byContradiction fun q => h2 (.inr q)⟩
    · intro z
      apply h1
      cases q1 : mHasValues s.slots c.fields with
      | false => exact .inl rfl
      | true =>
        rw [q1] at z
        exact .inr (by simpa using z)
theorem judge_loop_a {st : Stt} (T : ThsV st.1) {cs : List Thg} (hc : ∀ c ∈ cs, Cl c) (hl : cs.length = st.1.length) : ∀ (rest : List Thg) (k : Nat), st.1.drop k = rest → (List.range' k rest.length).findSome? (specFault (aS st) (cs.map aThg)) = (mJudgeF cs k rest).map fun x => (x.1, x.2.toNat)
  | [], k, h => rfl
  | t :: rest, k, h => by
    have ht : st.1[k]? = some t := by
      have : (st.1.drop k)[0]? = some t := by rw [h]; rfl
      rwa [List.getElem?_drop, Nat.add_zero] at this
    have hk : k < st.1.length := by
      rcases Nat.lt_or_ge k st.1.length with q | q
      · exact q
      · rw [List.getElem?_eq_none q] at ht; cases ht
    have h' : st.1.drop (k + 1) = rest := by
      rw [← List.drop_drop, h]
      rfl
    rw [List.length_cons, List.range'_succ, List.findSome?_cons, fault_a T hc ht (by omega), mJudgeF]
    by_cases c : 0 < mFault (cs.getD k t) t
    · rw [if_pos c, if_pos c]; rfl
    · rw [if_neg c, if_neg c]
      exact judge_loop_a T hc hl rest (k + 1) h'
theorem layoutFault_a {st : Stt} (T : ThsV st.1) {cs : List Thg} (hc : ∀ c ∈ cs, Cl c) (hl : cs.length = st.1.length) : Vbjjac.layoutFault (aS st) (cs.map aThg) = (mJudgeF cs 0 st.1).map fun x => (x.1, x.2.toNat) := by
  have := judge_loop_a T hc hl st.1 0 rfl
  rw [← List.range_eq_range'] at this
  unfold Vbjjac.layoutFault
  rw [show (aS st).laid.length = st.1.length by simp [aS]]
  exact this
theorem judge_pos {cs : List Thg} : ∀ {l : List Thg} {k : Nat} {x : Nat × Int}, mJudgeF cs k l = some x → 0 < x.2
  | [], k, x, h => by simp [mJudgeF] at h
  | t :: l, k, x, h => by
    unfold mJudgeF at h
    split at h
    · rename_i c
      cases h
      exact c
    · exact judge_pos h
end Sb
end
section
set_option Elab.async false
set_option linter.all false
set_option maxRecDepth 100000
set_option maxHeartbeats 4000000
/-! ### each operation as the specification has it -/
namespace Sb
open VbjjPlain (Value Field Thing Heap)
open VbjjShape (Kind Slot Shape Laid Layout Sister)
theorem Good.ths {st : Stt} (g : Good st) : ThsV st.1 := ⟨g.th, g.ac⟩
theorem Good.sss {st : Stt} (g : Good st) : SsV st.2 := ⟨g.sl, g.si, g.un⟩
theorem good_mk {ts : List Thg} {ss : List Sis} (h : ts.length ≤ 40) (T : ThsV ts) (S : SsV ss) : Good (ts, ss) := ⟨h, S.sl, T.th, S.si, S.un, T.ac⟩
def Sim (x : Layout × List Int) (y : Stt × List Int) : Prop := x = (aS y.1, y.2) ∧ Good y.1
theorem isObject_a (st : Stt) (z : Int) : Vbjjac.isObject (aS st) z = mThere st.1 z := by
  have : (aS st).laid.length = st.1.length := by simp [aS]
  unfold Vbjjac.isObject mThere
  rw [this]
  simp
theorem exists_a (st : Stt) {v : Val} (hv : mIsValue v = true) : Vbjjac.exists_ (aS st) (aVal v) = mKnown st.1 v := by
  have : (aS st).laid.length = st.1.length := by simp [aS]
  rcases val_cases hv with rfl | rfl | rfl | ⟨z, rfl⟩ | ⟨n, rfl, hn⟩ | ⟨n, rfl, hn⟩ | ⟨n, rfl, hn⟩ <;> simp [aVal, Vbjjac.exists_, mKnown, mThere, this]
theorem there_nat {ts : List Thg} {a : Int} (h : mThere ts a = true) : ∃ n : Nat, a = (n : Int) ∧ n < ts.length ∧ ts[n]? = some (thAt ts n) ∧ thAt ts n ∈ ts := by
  obtain ⟨h1, h2, h3, h4⟩ := there_get h
  refine ⟨a.toNat, h2, h1, ?_, ?_⟩
  · rw [← h2]; exact h3
  · rw [← h2]; exact h4
theorem ths_set {ts : List Thg} (T : ThsV ts) {n : Nat} {t t' : Thg} (ht : ts[n]? = some t) (V : ThgV ts.length t') (e : t'.proto = t.proto) : ThsV (ts.set n t') := by
  refine ⟨?_, rank_same (ts := ts) ?_ T.ac⟩
  · intro u hu
    rw [List.length_set]
    rcases List.mem_or_eq_of_mem_set hu with h | h
    · exact T.th u h
    · rw [h]; exact V
  · apply List.ext_getElem?
    intro i
    rw [List.getElem?_map, List.getElem?_map, List.getElem?_set]
    by_cases c : n = i
    · subst c
      rw [if_pos rfl, ht]
      by_cases c : n < ts.length
      · rw [if_pos c]; simp [e]
      · rw [List.getElem?_eq_none (by omega)] at ht; cases ht
    · rw [if_neg c]
theorem set_done {st : Stt} {n : Nat} {t' : Thg} {ss' : List Sis} : ({ VbjjShape.withLaid (aS st) n (aThg t') with sisters := ss'.map aSis } : Layout) = aS (st.1.set n t', ss') := by
  simp [VbjjShape.withLaid, aS, List.map_set]
theorem set_done' {st : Stt} {n : Nat} {t' : Thg} : VbjjShape.withLaid (aS st) n (aThg t') = aS (st.1.set n t', st.2) := by
  simp [VbjjShape.withLaid, aS, List.map_set]
theorem thAt_set {ts : List Thg} {n : Nat} (t' : Thg) (h : n < ts.length) : thAt (ts.set n t') (n : Int) = t' := by
  unfold thAt
  rw [Int.toNat_natCast, List.getElem?_set_self h]
  rfl
theorem thg_shp {n : Nat} {t : Thg} (V : ThgV n t) : ∀ s, t.lay = some s → ShpV 8 s := fun s h => (lay_shp V.ly V.pr.1 V.fl h).mono V.ln
theorem th_shp {ts : List Thg} (T : ThsV ts) (a : Int) : ∀ s, (thAt ts a).lay = some s → ShpV 8 s := by
  unfold thAt
  cases e : ts[a.toNat]? with
  | none => intro s h; cases h
  | some t => exact thg_shp (T.th t (List.mem_of_getElem? e))
theorem outcome_a {st st' : Stt} (T : ThsV st.1) (T' : ThsV st'.1) (n : Nat) : ((Vbjjac.outcomeOf (aS st) (aS st') n : Nat) : Int) = mOutcome (thAt st.1 n).lay (thAt st'.1 n).lay := by
  have h1 := th_shp T n
  have h2 := th_shp T' n
  unfold Vbjjac.outcomeOf mOutcome
  rw [shapeOf_a, shapeOf_a]
  cases e1 : (thAt st.1 n).lay with
  | none => rfl
  | some s =>
    cases e2 : (thAt st'.1 n).lay with
    | none => rfl
    | some t =>
      have I := aShp_inj (h1 s e1) (h2 t e2)
      simp only [Option.map_some]
      by_cases c : t = s
      · subst c; simp
      · have c' : ¬ aShp s = aShp t := fun z => c (I.1 z).symm
        simp [c, c']
theorem attempt_ok {st st' : Stt} {c : VbjjShape.Change} (n : Nat) (h1 : VbjjShape.troubleOf (aS st) c = none) (h2 : VbjjShape.done (aS st) c = aS st') : Vbjjac.attempt (aS st) c n = .ok (aS st', Vbjjac.outcomeOf (aS st) (aS st') n) := by
  have e : VbjjShape.dropped (aS st) (VbjjShape.dropsOf (aS st) c) = aS st := rfl
  unfold Vbjjac.attempt VbjjShape.changed
  rw [h1, e, h2]
  rfl
theorem attempt_no {st : Stt} {c : VbjjShape.Change} {t n : Nat} (h1 : VbjjShape.troubleOf (aS st) c = some t) : Vbjjac.attempt (aS st) c n = .error t := by
  unfold Vbjjac.attempt VbjjShape.changed
  rw [h1]
  rfl
theorem change_ok {st st' : Stt} {c : VbjjShape.Change} {n : Nat} (T : ThsV st.1) (T' : ThsV st'.1) (h1 : VbjjShape.troubleOf (aS st) c = none) (h2 : VbjjShape.done (aS st) c = aS st') : Vbjjac.doChange (aS st) c n = (aS st', [0, mOutcome (thAt st.1 n).lay (thAt st'.1 n).lay]) := by
  unfold Vbjjac.doChange
  rw [attempt_ok n h1 h2, ← outcome_a T T' n]
  rfl
theorem change_no {st : Stt} {c : VbjjShape.Change} {t n : Nat} (h1 : VbjjShape.troubleOf (aS st) c = some t) : Vbjjac.doChange (aS st) c n = (aS st, [-(t : Int)]) := by
  unfold Vbjjac.doChange
  rw [attempt_no h1]
  rfl
theorem withField_a (st : Stt) (a : Int) (f : Fld) (run : Field → Layout × List Int) : Vbjjac.withField (aS st) a f.name f.rd f.val.1 f.val.2 run = if mIsField f = false then (aS st, [-1]) else if mThere st.1 a = false ∨ mKnown st.1 f.val = false then (aS st, [-2]) else run (aFld f) := by
  unfold Vbjjac.withField
  rw [nameOk_a, bitOk_a, value_from, isObject_a]
  unfold mIsField
  cases h1 : mIsName f.name with
  | false => rfl
  | true =>
    cases h2 : mBit f.rd with
    | false => rfl
    | true =>
      by_cases h3 : mIsValue f.val = true
      · have h3' : mIsValue (f.val.1, f.val.2) = true := h3
        rw [if_pos h3']
        simp only [Bool.and_self, Bool.true_eq_false, if_false, h3]
        rw [exists_a st h3']
        cases mThere st.1 a with
        | false => rfl
        | true =>
          have : mKnown st.1 (f.val.1, f.val.2) = mKnown st.1 f.val := rfl
          rw [this]
          cases mKnown st.1 f.val with
          | false => rfl
          | true => rfl
      · have h3' : mIsValue (f.val.1, f.val.2) = false := by simpa using h3
        have h3'' : mIsValue f.val = false := h3'
        simp [h3', h3'']
        rfl
theorem place_none {fs : List Fld} {w : Int} (h : mPlace fs w = none) : w ∉ fs.map Fld.name := by
  intro q
  obtain ⟨f, hf, e⟩ := List.mem_map.1 q
  have := findF_none.1 h f hf
  simp [e] at this
theorem own_none {ts : List Thg} (T : ThsV ts) {w : Int} (hw : mIsName w = true) (n : Nat) : (VbjjPlain.ownField (hp ts) n (aName w)).isNone = (mPlace (thAt ts n).fields w).isNone := by
  rw [own_a T hw]
  cases e : mPlace (thAt ts n).fields w with
  | none => rfl
  | some i =>
    obtain ⟨f, hf, _⟩ := place_get e
    simp [hf]
theorem names_set {fs : List Fld} {i : Nat} {f g : Fld} (h : fs[i]? = some g) (e : f.name = g.name) : (fs.set i f).map Fld.name = fs.map Fld.name := by
  apply List.ext_getElem?
  intro j
  rw [List.getElem?_map, List.getElem?_map, List.getElem?_set]
  by_cases c : i = j
  · subst c
    rw [if_pos rfl, h]
    by_cases c : i < fs.length
    · rw [if_pos c]; simp [e]
    · rw [List.getElem?_eq_none (by omega)] at h; cases h
  · rw [if_neg c]
theorem put_done {st : Stt} (g : Good st) {n : Nat} (hn : n < st.1.length) (ht : st.1[n]? = some (thAt st.1 n)) (hm : thAt st.1 n ∈ st.1) {f : Fld} (hf : mIsField f = true) (h8 : mPlace (thAt st.1 n).fields f.name = none → (thAt st.1 n).fields.length < 8) :
    VbjjShape.done (aS st) (.put n (aFld f)) = aS (st.1.set n (mWithField st.2 (thAt st.1 n) f).2, (mWithField st.2 (thAt st.1 n) f).1) ∧ Good (st.1.set n (mWithField st.2 (thAt st.1 n) f).2, (mWithField st.2 (thAt st.1 n) f).1) := by
  have T := g.ths
  have S := g.sss
  have V := T.th _ hm
  have el := laid_a st n
  generalize ht' : thAt st.1 n = t at *
  have ep : VbjjShape.plainOf (aThg t) = aThing t.proto t.fields := plain_a V.ly
  have ef : (aThing t.proto t.fields).fields = t.fields.map aFld := rfl
  have ei : (t.fields.map aFld).findIdx? (fun x => x.name == (aFld f).name) = mPlace t.fields f.name := place_a V.fl (fld_ok hf).1
  have ed : VbjjShape.done (aS st) (.put n (aFld f)) = { VbjjShape.withLaid (aS st) n (match mPlace t.fields f.name with
      | some i => VbjjShape.stored (st.2.map aSis) (aThg t) i (aFld f)
      | none => VbjjShape.added (st.2.map aSis) (aThg t) (aFld f)).2 with sisters := (match mPlace t.fields f.name with
      | some i => VbjjShape.stored (st.2.map aSis) (aThg t) i (aFld f)
      | none => VbjjShape.added (st.2.map aSis) (aThg t) (aFld f)).1 } := by
    simp only [VbjjShape.done, el, ep, ef, ei]
    rfl
  rw [ed]
  unfold mWithField
  cases e : mPlace t.fields f.name with
  | none =>
    obtain ⟨a1, a2, a3⟩ := added_a S V.pr.1 V.ly V.fl hf (h8 e)
    have a1' : VbjjShape.added (st.2.map aSis) (aThg t) (aFld f) = ((mAdded st.2 t.lay f).1.map aSis, aThg ⟨t.proto, t.fields ++ [f], (mAdded st.2 t.lay f).2⟩) := a1
    simp only [a1']
    refine ⟨set_done, good_mk (by rw [List.length_set]; exact g.tl) (ths_set T ht ⟨V.pr, ?_, ?_, ?_, a3⟩ rfl) a2⟩
    · intro x hx
      rcases List.mem_append.1 hx with hx | hx
      · exact V.fl x hx
      · simp at hx; rw [hx]; exact hf
    · show ((t.fields ++ [f]).map Fld.name).Nodup
      rw [List.map_append, List.nodup_append]
      refine ⟨V.nd, by simp, ?_⟩
      intro a ha b hb
      simp at hb
      subst hb
      exact fun q => place_none e (q ▸ ha)
    · show (t.fields ++ [f]).length ≤ 8
      have := h8 e
      simp
      omega
  | some i =>
    obtain ⟨q, hq, hqn⟩ := place_get e
    obtain ⟨a1, a2, a3⟩ := stored_a S V.pr.1 V.ly V.fl hf hq hqn
    have a1' : VbjjShape.stored (st.2.map aSis) (aThg t) i (aFld f) = ((mReplaced st.2 t.lay i f).1.map aSis, aThg ⟨t.proto, t.fields.set i f, (mReplaced st.2 t.lay i f).2⟩) := a1
    simp only [a1']
    refine ⟨set_done, good_mk (by rw [List.length_set]; exact g.tl) (ths_set T ht ⟨V.pr, ?_, ?_, ?_, a3⟩ rfl) a2⟩
    · intro x hx
      rcases List.mem_or_eq_of_mem_set hx with hx | hx
      · exact V.fl x hx
      · rw [hx]; exact hf
    · show ((t.fields.set i f).map Fld.name).Nodup
      rw [names_set hq hqn.symm]
      exact V.nd
    · show (t.fields.set i f).length ≤ 8
      rw [List.length_set]
      exact V.ln
theorem put_trouble {st : Stt} (g : Good st) {n : Nat} (hm : thAt st.1 n ∈ st.1) {f : Fld} (hf : mIsField f = true) : VbjjShape.troubleOf (aS st) (.put n (aFld f)) = if mPlace (thAt st.1 n).fields f.name = none ∧ 8 ≤ (thAt st.1 n).fields.length then some 11 else none := by
  have T := g.ths
  have V := T.th _ hm
  have ep : VbjjShape.plainOf (aThg (thAt st.1 n)) = aThing (thAt st.1 n).proto (thAt st.1 n).fields := plain_a V.ly
  have eo : (VbjjPlain.ownField (hp st.1) n (aFld f).name).isNone = _ := own_none T (fld_ok hf).1 n
  simp only [VbjjShape.troubleOf, heap_a T, eo, laid_a, ep]
  simp [aThing, VbjjPlain.maxFields]
theorem put_okF {st : Stt} (g : Good st) (a : Int) (f : Fld) : Sim (Vbjjac.withField (aS st) a f.name f.rd f.val.1 f.val.2 fun f => Vbjjac.doChange (aS st) (.put a.toNat f) a.toNat) (mPut st a f) := by
  rw [withField_a]
  unfold mPut mPutRef
  by_cases h1 : mIsField f = false
  · rw [if_pos h1, if_pos h1]
    exact ⟨rfl, g⟩
  · rw [if_neg h1, if_neg h1]
    have h1 : mIsField f = true := by simpa using h1
    by_cases h2 : mThere st.1 a = false ∨ mKnown st.1 f.val = false
    · rw [if_pos h2, if_pos h2]
      exact ⟨rfl, g⟩
    · rw [if_neg h2, if_neg h2]
      have ha : mThere st.1 a = true := by
        cases q : mThere st.1 a with
        | true => rfl
        | false => exact absurd (.inl q) h2
      obtain ⟨n, rfl, hn, ht, hm⟩ := there_nat ha
      simp only [Int.toNat_natCast]
      have et := put_trouble g hm h1
      by_cases h3 : mPlace (thAt st.1 n).fields f.name = none ∧ 8 ≤ (thAt st.1 n).fields.length
      · rw [if_pos h3] at et
        rw [if_pos h3, change_no et]
        exact ⟨rfl, g⟩
      · rw [if_neg h3] at et
        rw [if_neg h3]
        obtain ⟨d1, d2⟩ := put_done g hn ht hm h1 fun q => by
          rcases Nat.lt_or_ge (thAt st.1 n).fields.length 8 with z | z
          · exact z
          · exact absurd ⟨q, z⟩ h3
        rw [change_ok g.ths d2.ths et d1]
        simp only [thAt_set _ hn]
        exact ⟨rfl, d2⟩
theorem put_ok {st : Stt} (g : Good st) (a w r k c : Int) : Sim (Vbjjac.step (aS st) (.put a w r k c)) (mPut st a ⟨w, r, (k, c)⟩) := put_okF g a ⟨w, r, (k, c)⟩
theorem would_okF {st : Stt} (g : Good st) (a : Int) (f : Fld) : Sim (Vbjjac.withField (aS st) a f.name f.rd f.val.1 f.val.2 fun f => match Vbjjac.attempt (aS st) (.put a.toNat f) a.toNat with
    | .error t => Vbjjac.fail (aS st) t
    | .ok x => Vbjjac.succeed (aS st) ((x.2 : Int) :: match VbjjShape.shapeOf x.1 a.toNat with
      | none => [0]
      | some y => 1 :: Vbjjac.shapeFields y)) (st, mTellWould st a f) := by
  refine ⟨?_, g⟩
  rw [withField_a]
  unfold mTellWould mPutRef
  by_cases h1 : mIsField f = false
  · rw [if_pos h1, if_pos h1]
    rfl
  · rw [if_neg h1, if_neg h1]
    have h1 : mIsField f = true := by simpa using h1
    by_cases h2 : mThere st.1 a = false ∨ mKnown st.1 f.val = false
    · rw [if_pos h2, if_pos h2]
      rfl
    · rw [if_neg h2, if_neg h2]
      have ha : mThere st.1 a = true := by
        cases q : mThere st.1 a with
        | true => rfl
        | false => exact absurd (.inl q) h2
      obtain ⟨n, rfl, hn, ht, hm⟩ := there_nat ha
      simp only [Int.toNat_natCast]
      have et := put_trouble g hm h1
      by_cases h3 : mPlace (thAt st.1 n).fields f.name = none ∧ 8 ≤ (thAt st.1 n).fields.length
      · rw [if_pos h3] at et
        rw [if_pos h3, attempt_no et]
        rfl
      · rw [if_neg h3] at et
        rw [if_neg h3]
        obtain ⟨d1, d2⟩ := put_done g hn ht hm h1 fun q => by
          rcases Nat.lt_or_ge (thAt st.1 n).fields.length 8 with z | z
          · exact z
          · exact absurd ⟨q, z⟩ h3
        have hs := th_shp d2.ths n
        rw [attempt_ok n et d1]
        simp only [outcome_a g.ths d2.ths n, shapeOf_a]
        rw [thAt_set _ hn] at hs ⊢
        cases q : (mWithField st.2 (thAt st.1 n) f).2.lay with
        | none => rfl
        | some s =>
          simp only [Option.map_some, shp_of (hs s q)]
          rfl
theorem would_ok {st : Stt} (g : Good st) (a w r k c : Int) : Sim (Vbjjac.step (aS st) (.would a w r k c)) (st, mTellWould st a ⟨w, r, (k, c)⟩) := would_okF g a ⟨w, r, (k, c)⟩
end Sb
end
section
set_option Elab.async false
set_option linter.all false
set_option maxRecDepth 100000
set_option maxHeartbeats 4000000
namespace Sb
open VbjjPlain (Value Field Thing Heap)
open VbjjShape (Kind Slot Shape Laid Layout Sister)
theorem bool_false {b : Bool} (h : ¬ b = false) : b = true := by cases b <;> simp_all
theorem take_ok {st : Stt} (g : Good st) (a w : Int) : Sim (Vbjjac.step (aS st) (.takeOut a w)) (mTake st a w) := by
  have T := g.ths
  unfold Vbjjac.step mTake
  dsimp only
  rw [nameOk_a, isObject_a]
  by_cases h1 : mIsName w = false
  · rw [if_pos h1, if_pos h1]
    exact ⟨rfl, g⟩
  rw [if_neg h1, if_neg h1]
  have h1 := bool_false h1
  by_cases h2 : mThere st.1 a = false
  · rw [if_pos h2, if_pos h2]
    exact ⟨rfl, g⟩
  rw [if_neg h2, if_neg h2]
  obtain ⟨n, rfl, hn, ht, hm⟩ := there_nat (bool_false h2)
  simp only [Int.toNat_natCast]
  have V := T.th _ hm
  have eo : (VbjjPlain.ownField (VbjjShape.plainHeap (aS st)) n (Vbjjac.nameFrom w)).isNone = (mPlace (thAt st.1 n).fields w).isNone := by
    rw [heap_a T]
    exact own_none T h1 n
  rw [eo]
  cases e : mPlace (thAt st.1 n).fields w with
  | none => exact ⟨rfl, g⟩
  | some i =>
    simp only [Option.isNone_some, Bool.false_eq_true, if_false]
    obtain ⟨q, hq, hqn⟩ := place_get e
    obtain ⟨w1, w2⟩ := without_a V.pr.1 V.ly V.fl V.nd h1 hq hqn
    have ed : VbjjShape.done (aS st) (.takeOut n (Vbjjac.nameFrom w)) = aS (st.1.set n (mWithout (thAt st.1 n) i), st.2) := by
      have w1' : VbjjShape.withoutSlot (aThg (thAt st.1 n)) (Vbjjac.nameFrom w) = aThg (mWithout (thAt st.1 n) i) := w1
      simp only [VbjjShape.done, laid_a, w1', set_done']
    have g' : Good (st.1.set n (mWithout (thAt st.1 n) i), st.2) := by
      refine good_mk (by rw [List.length_set]; exact g.tl) (ths_set T ht ⟨V.pr, ?_, ?_, ?_, w2⟩ rfl) g.sss
      · intro x hx
        exact V.fl x (List.mem_of_mem_eraseIdx hx)
      · show (((thAt st.1 n).fields.eraseIdx i).map Fld.name).Nodup
        exact V.nd.sublist ((List.eraseIdx_sublist _ _).map _)
      · show ((thAt st.1 n).fields.eraseIdx i).length ≤ 8
        exact Nat.le_trans (List.eraseIdx_sublist _ _).length_le V.ln
    rw [change_ok T g'.ths rfl ed]
    simp only [thAt_set _ hn]
    exact ⟨rfl, g'⟩
theorem link_ok {st : Stt} (g : Good st) (a p : Int) : Sim (Vbjjac.step (aS st) (.link a p)) (mLink st a p) := by
  have T := g.ths
  unfold Vbjjac.step mLink
  dsimp only
  rw [isObject_a, isObject_a]
  by_cases h1 : p < -1
  · rw [if_pos h1, if_pos h1]
    exact ⟨rfl, g⟩
  rw [if_neg h1, if_neg h1]
  have e2 : ((mThere st.1 a && (decide (p = -1) || mThere st.1 p)) = false) ↔ (mThere st.1 a = false ∨ (st.1.length : Int) ≤ p) := by
    cases q : mThere st.1 a with
    | false => simp
    | true =>
      simp only [Bool.true_and, Bool.true_eq_false, false_or]
      unfold mThere
      by_cases c : p = -1
      · simp [c]; omega
      · simp [c]; omega
  by_cases h2 : mThere st.1 a = false ∨ (st.1.length : Int) ≤ p
  · rw [if_pos h2, if_pos (e2.2 h2)]
    exact ⟨rfl, g⟩
  rw [if_neg h2, if_neg fun z => h2 (e2.1 z)]
  have ha : mThere st.1 a = true := by
    cases q : mThere st.1 a with
    | true => rfl
    | false => exact absurd (.inl q) h2
  have hp : p < (st.1.length : Int) := by
    rcases Int.lt_or_le p (st.1.length : Int) with z | z
    · exact z
    · exact absurd (.inr z) h2
  obtain ⟨n, rfl, hn, ht, hm⟩ := there_nat ha
  simp only [Int.toNat_natCast]
  have V := T.th _ hm
  have et : VbjjShape.troubleOf (aS st) (.link n (Vbjjac.prototypeFrom p)) = if (n : Int) ∈ mLine st.1 st.1.length p then some 9 else none := by
    have el : (aS st).laid.length = st.1.length := by simp [aS]
    unfold Vbjjac.prototypeFrom
    by_cases c : p < 0
    · rw [if_pos c, line_neg _ _ _ c]
      rfl
    · rw [if_neg c]
      obtain ⟨m, rfl⟩ : ∃ m : Nat, p = (m : Int) := ⟨p.toNat, by omega⟩
      simp only [VbjjShape.troubleOf, heap_a T, el, Int.toNat_natCast]
      rw [met_a T n st.1.length st.1.length m (T.dep hp) (Nat.le_refl _)]
      simp
  by_cases h3 : (n : Int) ∈ mLine st.1 st.1.length p
  · rw [if_pos h3] at et
    rw [if_pos h3, change_no et]
    exact ⟨rfl, g⟩
  · rw [if_neg h3] at et
    rw [if_neg h3]
    obtain ⟨l1, l2⟩ := linked_a (q := p) V.ly
    have l1' : VbjjShape.relinked (aThg (thAt st.1 n)) (Vbjjac.prototypeFrom p) = aThg ⟨p, (thAt st.1 n).fields, mLinked (thAt st.1 n).lay p⟩ := l1
    have ed : VbjjShape.done (aS st) (.link n (Vbjjac.prototypeFrom p)) = aS (st.1.set n ⟨p, (thAt st.1 n).fields, mLinked (thAt st.1 n).lay p⟩, st.2) := by
      simp only [VbjjShape.done, laid_a, l1', set_done']
    have g' : Good (st.1.set n ⟨p, (thAt st.1 n).fields, mLinked (thAt st.1 n).lay p⟩, st.2) := by
      refine good_mk (by rw [List.length_set]; exact g.tl) ⟨?_, rank_link T hp h3 ht rfl⟩ g.sss
      intro u hu
      rw [List.length_set]
      rcases List.mem_or_eq_of_mem_set hu with h | h
      · exact T.th u h
      · rw [h]
        exact ⟨⟨by show -1 ≤ p; omega, hp⟩, V.fl, V.nd, V.ln, l2⟩
    rw [change_ok T g'.ths et ed]
    simp only [thAt_set _ hn]
    exact ⟨rfl, g'⟩
theorem loosen_ok {st : Stt} (g : Good st) (a : Int) : Sim (Vbjjac.step (aS st) (.loosen a)) (mLoosen st a) := by
  have T := g.ths
  have el : (aS st).laid.length = st.1.length := by simp [aS]
  unfold Vbjjac.step mLoosen
  dsimp only
  rw [isObject_a]
  by_cases h2 : mThere st.1 a = false
  · rw [if_pos h2, if_pos h2]
    exact ⟨rfl, g⟩
  rw [if_neg h2, if_neg h2]
  obtain ⟨n, rfl, hn, ht, hm⟩ := there_nat (bool_false h2)
  simp only [Int.toNat_natCast]
  have V := T.th _ hm
  have ed : VbjjShape.loosened (aS st) n = aS (st.1.set n ⟨(thAt st.1 n).proto, (thAt st.1 n).fields, none⟩, st.2) := by
    unfold VbjjShape.loosened
    rw [el, if_pos hn, laid_a]
    have : VbjjShape.plainOf (aThg (thAt st.1 n)) = aThing (thAt st.1 n).proto (thAt st.1 n).fields := plain_a V.ly
    rw [this]
    exact set_done' (t' := ⟨(thAt st.1 n).proto, (thAt st.1 n).fields, none⟩)
  have g' : Good (st.1.set n ⟨(thAt st.1 n).proto, (thAt st.1 n).fields, none⟩, st.2) :=
    good_mk (by rw [List.length_set]; exact g.tl) (ths_set T ht ⟨V.pr, V.fl, V.nd, V.ln, fun s h => by cases h⟩ rfl) g.sss
  rw [ed]
  refine ⟨?_, g'⟩
  unfold Vbjjac.succeed
  rw [outcome_a T g'.ths n]
  simp only [thAt_set _ hn]
theorem settle_ok {st : Stt} (g : Good st) (a : Int) : Sim (Vbjjac.step (aS st) (.settle a)) (mSettle st a) := by
  have T := g.ths
  have el : (aS st).laid.length = st.1.length := by simp [aS]
  unfold Vbjjac.step mSettle
  dsimp only
  rw [isObject_a]
  by_cases h2 : mThere st.1 a = false
  · rw [if_pos h2, if_pos h2]
    exact ⟨rfl, g⟩
  rw [if_neg h2, if_neg h2]
  obtain ⟨n, rfl, hn, ht, hm⟩ := there_nat (bool_false h2)
  simp only [Int.toNat_natCast]
  have V := T.th _ hm
  rw [shapeOf_a]
  cases e : (thAt st.1 n).lay with
  | some s =>
    rw [if_pos (by simp)]
    have ed : VbjjShape.settled (aS st) n = aS st := by
      unfold VbjjShape.settled
      rw [laid_a]
      unfold aThg aLaid
      rw [e]
    rw [ed]
    exact ⟨rfl, g⟩
  | none =>
    rw [if_neg (by simp)]
    obtain ⟨s1, s2⟩ := settled_a (p := (thAt st.1 n).proto) V.fl
    have ed : VbjjShape.settled (aS st) n = aS (st.1.set n ⟨(thAt st.1 n).proto, (thAt st.1 n).fields, some ⟨(thAt st.1 n).proto, mConst (thAt st.1 n).fields⟩⟩, st.2) := by
      have et : aThg (thAt st.1 n) = .loose (aThing (thAt st.1 n).proto (thAt st.1 n).fields) := by
        unfold aThg aLaid
        rw [e]
      unfold VbjjShape.settled
      rw [laid_a, et]
      simp only []
      rw [el, if_pos hn, s1]
      exact set_done' (t' := ⟨(thAt st.1 n).proto, (thAt st.1 n).fields, some ⟨(thAt st.1 n).proto, mConst (thAt st.1 n).fields⟩⟩)
    rw [ed]
    exact ⟨rfl, good_mk (by rw [List.length_set]; exact g.tl) (ths_set T ht ⟨V.pr, V.fl, V.nd, V.ln, s2⟩ rfl) g.sss⟩
theorem listed_nodup {fs : List Fld} (F : ∀ f ∈ fs, mIsField f = true) : decide (((fs.map aFld).map fun f => f.name).Nodup) = !mTwice fs := by
  have N := twice_nodup fs
  have N2 := names_nodup F
  cases q : mTwice fs with
  | true =>
    rw [Bool.not_true, decide_eq_false]
    intro z
    rw [N.2 (N2.1 z)] at q
    cases q
  | false => rw [Bool.not_false, decide_eq_true (N2.2 (N.1 q))]
theorem known_all (st : Stt) : ∀ {fs : List Fld}, (∀ f ∈ fs, mIsField f = true) → ((fs.map aFld).all fun f => Vbjjac.exists_ (aS st) f.content) = fs.all fun f => mKnown st.1 f.val
  | [], _ => rfl
  | f :: fs, F => by
    have e : Vbjjac.exists_ (aS st) (aFld f).content = mKnown st.1 f.val := exists_a st (fld_ok (F f List.mem_cons_self)).2.2
    simp only [List.map_cons, List.all_cons, e, known_all st fun g hg => F g (List.mem_cons_of_mem _ hg)]
theorem make_ok {st : Stt} (g : Good st) (p : Int) (l : List Int) : Sim (Vbjjac.step (aS st) (.make p l)) (mMake st p l) := by
  have T := g.ths
  have S := g.sss
  have el : (aS st).laid.length = st.1.length := by simp [aS]
  unfold Vbjjac.step mMake mMakeRef
  dsimp only
  rw [fieldsFrom_a]
  cases h0 : mIsList l with
  | false =>
    simp only [Bool.false_eq_true, if_false, or_true, if_true]
    exact ⟨rfl, g⟩
  | true =>
    have F : ∀ f ∈ mListed l, mIsField f = true := by
      unfold mIsList at h0
      simp only [Bool.and_eq_true, List.all_eq_true] at h0
      exact h0.2
    simp only [Bool.true_eq_false, if_true, or_false]
    rw [listed_nodup F, known_all st F, isObject_a, List.length_map, el]
    generalize hfs : mListed l = fs at *
    by_cases h1 : p < -1
    · rw [if_pos (.inl h1), if_pos h1]
      exact ⟨rfl, g⟩
    by_cases h2 : mTwice fs = true
    · rw [if_pos (.inr (by simp [h2])), if_neg h1, if_pos h2]
      exact ⟨rfl, g⟩
    rw [if_neg (by
      rintro (z | z)
      · exact h1 z
      · exact h2 (by simpa using z)), if_neg h1, if_neg h2]
    have e3 : ((decide (p = -1) || mThere st.1 p) = false ∨ (fs.all fun f => mKnown st.1 f.val) = false) ↔ ((st.1.length : Int) ≤ p ∨ (fs.all fun f => mKnown st.1 f.val) = false) := by
      refine or_congr_left ?_
      unfold mThere
      by_cases c : p = -1
      · simp [c]; omega
      · simp [c]; omega
    by_cases h3 : (st.1.length : Int) ≤ p ∨ (fs.all fun f => mKnown st.1 f.val) = false
    · rw [if_pos h3, if_pos (e3.2 h3)]
      exact ⟨rfl, g⟩
    rw [if_neg h3, if_neg fun z => h3 (e3.1 z)]
    by_cases h4 : 8 < fs.length
    · rw [if_pos h4, if_pos (by exact h4)]
      exact ⟨rfl, g⟩
    rw [if_neg h4, if_neg (by exact h4)]
    by_cases h5 : 40 ≤ st.1.length
    · rw [if_pos h5, if_pos (by exact h5)]
      exact ⟨rfl, g⟩
    rw [if_neg h5, if_neg (by exact h5), if_neg (by decide)]
    have hp : -1 ≤ p := by omega
    have L0 : LayV p [] (some ⟨p, []⟩) := by
      intro s hs
      cases hs
      exact ⟨rfl, .nil⟩
    obtain ⟨m1, m2, m3⟩ := made_a hp (gs := fs) (fs := []) S L0 (by simpa using F) (by simp; omega) (mMade st.2 p fs) rfl
    have em : VbjjShape.madeLaid (aS st) ⟨Vbjjac.prototypeFrom p, fs.map aFld⟩ = (aS (st.1 ++ [⟨p, fs, (mMade st.2 p fs).2⟩], (mMade st.2 p fs).1), st.1.length) := by
      unfold VbjjShape.madeLaid
      have m1' : (fs.map aFld).foldl (fun (y : List Sister × Laid) f => VbjjShape.added y.1 y.2 f) ((aS st).sisters, .shaped ⟨Vbjjac.prototypeFrom p, []⟩ []) = ((mMade st.2 p fs).1.map aSis, aThg ⟨p, fs, (mMade st.2 p fs).2⟩) := m1
      dsimp only
      rw [m1']
      simp [aS]
    rw [em]
    refine ⟨rfl, good_mk (by simp; omega) ⟨?_, rank_new T ?_⟩ m2⟩
    · intro u hu
      rw [List.length_append, List.length_singleton]
      rcases List.mem_append.1 hu with h | h
      · have V := T.th u h
        exact ⟨⟨V.pr.1, by have := V.pr.2; omega⟩, V.fl, V.nd, V.ln, V.ly⟩
      · simp at h
        subst h
        have hlt : p < st.1.length := by
          rcases Int.lt_or_le p (st.1.length : Int) with z | z
          · exact z
          · exact absurd (.inl z) h3
        exact ⟨⟨hp, by show p < _; omega⟩, F, (twice_nodup fs).1 (by simpa using h2), by show fs.length ≤ 8; omega, m3⟩
    · rcases Int.lt_or_le p (st.1.length : Int) with z | z
      · exact z
      · exact absurd (.inl z) h3
end Sb
end
section
set_option Elab.async false
set_option linter.all false
set_option maxRecDepth 100000
set_option maxHeartbeats 4000000
namespace Sb
open VbjjPlain (Value Field Thing Heap)
open VbjjShape (Kind Slot Shape Laid Layout Sister)
theorem thAt_mid (d r : List Thg) (t : Thg) : thAt (d ++ t :: r) ((d.length : Nat) : Int) = t := by
  unfold thAt
  rw [Int.toNat_natCast, List.getElem?_append_right (Nat.le_refl _), Nat.sub_self]
  rfl
theorem caught_a {N : Nat} {d r : List Thg} {t : Thg} {ss : List Sis} (S : SsV ss) (V : ThgV N t) : Vbjjac.caughtUp (aS (d ++ t :: r, ss)) d.length = aS (d ++ (mCaught ss t).2 :: r, (mCaught ss t).1) ∧ SsV (mCaught ss t).1 ∧ ThgV N (mCaught ss t).2 ∧ (mCaught ss t).2.proto = t.proto := by
  unfold Vbjjac.caughtUp mCaught
  rw [laid_a, thAt_mid]
  cases e : t.lay with
  | none =>
    have et : aThg t = .loose (aThing t.proto t.fields) := by
      unfold aThg aLaid
      rw [e]
    rw [et, if_pos rfl]
    exact ⟨rfl, S, V, rfl⟩
  | some s =>
    have et : aThg t = .shaped (aShp s) (t.fields.map fun f => aVal f.val) := by
      unfold aThg aLaid
      rw [e]
    have ep : VbjjShape.plainOf (aThg t) = aThing t.proto t.fields := plain_a V.ly
    rw [et] at ep
    rw [et, if_neg (by simp)]
    have L0 : LayV t.proto [] (some ⟨t.proto, []⟩) := by
      intro s hs
      cases hs
      exact ⟨rfl, .nil⟩
    obtain ⟨m1, m2, m3⟩ := made_a V.pr.1 (gs := t.fields) (fs := []) S L0 (by simpa using V.fl) (by simpa using V.ln) (mMade ss t.proto t.fields) rfl
    have m1' : Vbjjac.laidAnew (aS (d ++ t :: r, ss)).sisters (aThing t.proto t.fields) = ((mMade ss t.proto t.fields).1.map aSis, aThg ⟨t.proto, t.fields, (mMade ss t.proto t.fields).2⟩) := m1
    simp only [ep, m1']
    refine ⟨?_, m2, ⟨V.pr, V.fl, V.nd, V.ln, m3⟩, trivial⟩
    rw [set_done]
    simp
theorem catch_fold {N : Nat} : ∀ (r d : List Thg) (ss : List Sis) (c : Int), SsV ss → (∀ t ∈ r, ThgV N t) →
    ∃ us ss' c', r.foldl mCatchF (ss, d, c) = (ss', d ++ us, c') ∧ (List.range' d.length r.length).foldl Vbjjac.caughtUp (aS (d ++ r, ss)) = aS (d ++ us, ss') ∧ SsV ss' ∧ us.length = r.length ∧ us.map Thg.proto = r.map Thg.proto ∧ (∀ u ∈ us, ThgV N u) ∧ c' = c + (((r.zip us).countP fun x => !decide (x.2.lay = x.1.lay) : Nat) : Int)
  | [], d, ss, c, S, V => ⟨[], ss, c, by simp, rfl, S, rfl, rfl, by simp, by simp⟩
  | t :: r, d, ss, c, S, V => by
    obtain ⟨e1, e2, e3, e4⟩ := caught_a (d := d) (r := r) S (V t List.mem_cons_self)
    obtain ⟨us, ss', c', i1, i2, i3, i4, i5, i6, i7⟩ := catch_fold r (d ++ [(mCaught ss t).2]) (mCaught ss t).1 (if (mCaught ss t).2.lay = t.lay then c else c + 1) e2 fun u hu => V u (List.mem_cons_of_mem _ hu)
    refine ⟨(mCaught ss t).2 :: us, ss', c', ?_, ?_, i3, by simp [i4], by simp [i5, e4], ?_, ?_⟩
    · rw [List.foldl_cons]
      show r.foldl mCatchF ((mCaught ss t).1, d ++ [(mCaught ss t).2], if (mCaught ss t).2.lay = t.lay then c else c + 1) = _
      rw [i1]
      simp
    · rw [List.length_cons, List.range'_succ, List.foldl_cons, e1]
      simp only [List.length_append, List.length_singleton, List.append_assoc, List.cons_append, List.nil_append] at i2
      exact i2
    · intro u hu
      rcases List.mem_cons.1 hu with rfl | hu
      · exact e3
      · exact i6 u hu
    · rw [i7, List.zip_cons_cons, List.countP_cons]
      by_cases q : (mCaught ss t).2.lay = t.lay
      · simp [q]
      · simp [q]; omega
theorem zip_maps {α β γ : Type} (f : α → β) (g : α → γ) : ∀ l : List α, l.map (fun i => (f i, g i)) = (l.map f).zip (l.map g)
  | [] => rfl
  | a :: l => by simp [zip_maps f g l]
theorem zip_th {ts us : List Thg} (h : us.length = ts.length) : ((List.range ts.length).map fun i => (thAt ts (i : Nat), thAt us (i : Nat))) = ts.zip us := by
  have e := range_th us
  rw [h] at e
  rw [zip_maps (fun i : Nat => thAt ts (i : Nat)) (fun i : Nat => thAt us (i : Nat)), range_th, e]
theorem zip_mem {α β : Type} {l : List α} {m : List β} {x : α × β} (h : x ∈ l.zip m) : x.1 ∈ l ∧ x.2 ∈ m := by
  obtain ⟨a, b⟩ := x
  exact List.of_mem_zip h
theorem count_a {st st' : Stt} (T : ThsV st.1) (T' : ThsV st'.1) (h : st'.1.length = st.1.length) : (List.range st.1.length).countP (Vbjjac.isOther (aS st) (aS st')) = (st.1.zip st'.1).countP fun x => !decide (x.2.lay = x.1.lay) := by
  have e : Vbjjac.isOther (aS st) (aS st') = (fun x : Thg × Thg => (x.1.lay.map aShp) != (x.2.lay.map aShp)) ∘ fun i : Nat => (thAt st.1 (i : Nat), thAt st'.1 (i : Nat)) := by
    funext i
    unfold Vbjjac.isOther
    rw [shapeOf_a, shapeOf_a]
    rfl
  rw [e, ← List.countP_map, zip_th h]
  refine List.countP_congr fun x hx => ?_
  obtain ⟨h1, h2⟩ := zip_mem hx
  have v1 := thg_shp (T.th _ h1)
  have v2 := thg_shp (T'.th _ h2)
  cases e1 : x.1.lay with
  | none => cases e2 : x.2.lay <;> simp
  | some s =>
    cases e2 : x.2.lay with
    | none => simp
    | some t =>
      have I := aShp_inj (v1 s e1) (v2 t e2)
      by_cases c : s = t
      · simp [c]
      · have c' : ¬ t = s := fun z => c z.symm
        have c2 : ¬ aShp s = aShp t := fun z => c (I.1 z)
        simp [c, c', c2]
theorem catch_ok {st : Stt} (g : Good st) : Sim (Vbjjac.step (aS st) .catchUp) (mCatch st) := by
  have T := g.ths
  have el : (aS st).laid.length = st.1.length := by simp [aS]
  obtain ⟨us, ss', c', i1, i2, i3, i4, i5, i6, i7⟩ := catch_fold (N := st.1.length) st.1 [] st.2 0 g.sss T.th
  simp only [List.nil_append, List.length_nil] at i1 i2
  rw [← List.range_eq_range'] at i2
  have T' : ThsV us := ⟨by rw [i4]; exact i6, rank_same i5 T.ac⟩
  have g' : Good (us, ss') := good_mk (by rw [i4]; exact g.tl) T' i3
  have ec := count_a (st := st) (st' := (us, ss')) T T' i4
  unfold mCatch
  rw [i1]
  refine ⟨?_, g'⟩
  show Vbjjac.succeed ((List.range (aS st).laid.length).foldl Vbjjac.caughtUp (aS st)) [(((List.range (aS st).laid.length).countP (Vbjjac.isOther (aS st) ((List.range (aS st).laid.length).foldl Vbjjac.caughtUp (aS st))) : Nat) : Int)] = _
  rw [el, i2, ec, i7]
  unfold Vbjjac.succeed
  simp
/-! what is told -/
theorem object_ok {st : Stt} (g : Good st) (a : Int) : Sim (Vbjjac.step (aS st) (.object a)) (st, mTellObject st.1 a) := by
  have T := g.ths
  refine ⟨?_, g⟩
  unfold Vbjjac.step mTellObject
  dsimp only
  rw [isObject_a]
  by_cases h2 : mThere st.1 a = false
  · rw [if_pos h2, if_pos h2]
    rfl
  rw [if_neg h2, if_neg h2]
  obtain ⟨n, rfl, hn, ht, hm⟩ := there_nat (bool_false h2)
  have V := T.th _ hm
  have ep : VbjjShape.plainOf (aThg (thAt st.1 n)) = aThing (thAt st.1 n).proto (thAt st.1 n).fields := plain_a V.ly
  simp only [Int.toNat_natCast, laid_a, ep]
  simp only [aThing, p_of V.pr.1, List.length_map, flds_of V.fl]
  rfl
theorem tLay_a {l : Option Shp} (h : ∀ s, l = some s → ShpV 8 s) : (match l.map aShp with
    | none => [0]
    | some x => 1 :: Vbjjac.shapeFields x : List Int) = tLay l := by
  cases l with
  | none => rfl
  | some s =>
    simp only [Option.map_some, shp_of (h s rfl)]
    rfl
theorem shape_ok {st : Stt} (g : Good st) (a : Int) : Sim (Vbjjac.step (aS st) (.shape a)) (st, mTellShape st.1 a) := by
  have T := g.ths
  refine ⟨?_, g⟩
  unfold Vbjjac.step mTellShape
  dsimp only
  rw [isObject_a]
  by_cases h2 : mThere st.1 a = false
  · rw [if_pos h2, if_pos h2]
    rfl
  rw [if_neg h2, if_neg h2]
  obtain ⟨n, rfl, hn, ht, hm⟩ := there_nat (bool_false h2)
  rw [Int.toNat_natCast, shapeOf_a]
  have := tLay_a (th_shp T n)
  unfold Vbjjac.succeed
  rw [← this]
  rfl
theorem same_ok {st : Stt} (g : Good st) (a b : Int) : Sim (Vbjjac.step (aS st) (.sameShape a b)) (st, mTellSame st.1 a b) := by
  have T := g.ths
  refine ⟨?_, g⟩
  unfold Vbjjac.step mTellSame
  dsimp only
  rw [isObject_a, isObject_a]
  by_cases h2 : mThere st.1 a = false ∨ mThere st.1 b = false
  · rw [if_pos h2, if_pos (by rcases h2 with h | h <;> simp [h])]
    rfl
  rw [if_neg h2, if_neg (fun z => h2 (by
    rw [Bool.and_eq_false_iff] at z
    exact z))]
  obtain ⟨n, rfl, hn, ht, hm⟩ := there_nat (bool_false fun z => h2 (.inl z))
  obtain ⟨m, rfl, hn', ht', hm'⟩ := there_nat (bool_false fun z => h2 (.inr z))
  simp only [Int.toNat_natCast, shapeOf_a]
  have v1 := th_shp T n
  have v2 := th_shp T m
  cases e1 : (thAt st.1 n).lay with
  | none => rfl
  | some s =>
    cases e2 : (thAt st.1 m).lay with
    | none => rfl
    | some t =>
      have I := aShp_inj (v1 s e1) (v2 t e2)
      by_cases c : s = t
      · subst c
        simp [Vbjjac.flag, Vbjjac.succeed]
      · have c2 : ¬ aShp s = aShp t := fun z => c (I.1 z)
        simp [c, c2, Vbjjac.flag, Vbjjac.succeed]
theorem find_ok {st : Stt} (g : Good st) (a w : Int) : Sim (Vbjjac.step (aS st) (.find a w)) (st, mTellFind st.1 a w) := by
  have T := g.ths
  refine ⟨?_, g⟩
  unfold Vbjjac.step mTellFind
  dsimp only
  rw [nameOk_a, isObject_a]
  by_cases h1 : mIsName w = false
  · rw [if_pos h1, if_pos h1]
    rfl
  rw [if_neg h1, if_neg h1]
  have h1 := bool_false h1
  by_cases h2 : mThere st.1 a = false
  · rw [if_pos h2, if_pos h2]
    rfl
  rw [if_neg h2, if_neg h2]
  obtain ⟨n, rfl, hn, ht, hm⟩ := there_nat (bool_false h2)
  rw [Int.toNat_natCast, heap_a T]
  have L := lookup_a T h1 st.1.length st.1.length n 0 (T.dep (by omega)) (Nat.le_refl _)
  rw [← L]
  have el : VbjjPlain.lookupFrom (hp st.1) n (Vbjjac.nameFrom w) = VbjjPlain.lookup (hp st.1) (aName w) st.1.length n := by
    unfold VbjjPlain.lookupFrom
    rw [show (hp st.1).things.length = st.1.length by simp [hp]]
    rfl
  rw [el]
  generalize VbjjPlain.lookup (hp st.1) (aName w) st.1.length n = x
  unfold told Vbjjac.succeed
  cases x.2 with
  | none => simp
  | some y =>
    simp only [Int.zero_add]
    rfl
theorem siss_of : ∀ {l : List Sis}, (∀ s ∈ l, SisV s) → ((l.map aSis).flatMap fun x => Vbjjac.shapeFields x.shape ++ (Vbjjac.letterOf x.name :: Vbjjac.flag x.isReader :: Vbjjac.kindFields x.kind)) = l.flatMap tSis
  | [], _ => rfl
  | s :: l, h => by
    rw [List.map_cons, List.flatMap_cons, List.flatMap_cons, sis_of (h s List.mem_cons_self), siss_of fun x hx => h x (List.mem_cons_of_mem _ hx)]
theorem sisters_ok {st : Stt} (g : Good st) : Sim (Vbjjac.step (aS st) .sisters) (st, mTellSisters st.2) := by
  refine ⟨?_, g⟩
  unfold Vbjjac.step mTellSisters
  have e : (aS st).sisters = st.2.map aSis := rfl
  dsimp only
  rw [e, siss_of g.si, List.length_map]
  rfl
theorem totals_ok {st : Stt} (g : Good st) : Sim (Vbjjac.step (aS st) .totals) (st, mTotals st) := by
  have T := g.ths
  refine ⟨?_, g⟩
  unfold Vbjjac.step mTotals
  dsimp only
  rw [shapes_a st fun t ht => thg_shp (T.th t ht)]
  have e1 : (aS st).laid = st.1.map aThg := rfl
  have e2 : (aS st).sisters = st.2.map aSis := rfl
  rw [e1, e2, List.length_map, List.length_map, List.countP_map]
  have e3 : ((fun x : Laid => match x with
    | .loose _ => true
    | _ => false) ∘ aThg) = fun t => t.lay.isNone := by
    funext t
    simp only [Function.comp]
    unfold aThg aLaid
    cases t.lay <;> rfl
  have e4 : st.1.countP ((fun x : Laid => match x with
    | .loose _ => true
    | _ => false) ∘ aThg) = st.1.countP fun t => t.lay.isNone := by rw [e3]
  unfold Vbjjac.succeed
  refine Prod.ext rfl ?_
  simp only [List.cons.injEq, true_and]
  exact ⟨congrArg Int.ofNat e4, trivial⟩
theorem cl_shp {c : Thg} (h : Cl c) : ∀ s, c.lay = some s → ShpV 8 s := by
  intro s hs
  obtain ⟨s', e1, e2, e3⟩ := h.ex
  rw [e1] at hs
  cases hs
  refine ⟨by rw [e2]; exact h.pr, e3.sl, ?_⟩
  rw [e3.length]
  exact h.ln
theorem judge_ok {st : Stt} (g : Good st) (l : List Int) : Sim (Vbjjac.step (aS st) (.judge l)) (st, mJudge st.1 l) := by
  have T := g.ths
  have el : (aS st).laid.length = st.1.length := by simp [aS]
  refine ⟨?_, g⟩
  unfold Vbjjac.step mJudge
  dsimp only
  have C := claim_a l st.1.length
  rw [el]
  cases e : mClaim l st.1.length with
  | none =>
    rw [e] at C
    cases q : Vbjjac.claimFrom l.length l with
    | none => rfl
    | some c =>
      rw [q] at C
      simp only [chosen] at C
      by_cases h : c.length = st.1.length
      · rw [if_pos h] at C; cases C
      · simp only [ne_eq, h, not_false_eq_true, if_true]
        rfl
  | some cs =>
    rw [e] at C
    have hc := mClaim_cl e
    have hl := (mClaim_ok e).2
    cases q : Vbjjac.claimFrom l.length l with
    | none => rw [q] at C; cases C
    | some c =>
      rw [q] at C
      simp only [chosen] at C
      by_cases h : c.length = st.1.length
      · rw [if_pos h] at C
        simp only [Option.map_some, Option.some.injEq] at C
        subst C
        simp only [ne_eq, h, not_true_eq_false, if_false]
        rw [layoutFault_a T hc hl]
        cases j : mJudgeF cs 0 st.1 with
        | none =>
          simp only [Option.map_none]
          have es : ({ aS st with laid := cs.map aThg } : Layout) = aS (cs, st.2) := rfl
          rw [es, shapes_a (cs, st.2) fun t ht => cl_shp (hc t ht)]
          rfl
        | some x =>
          have := judge_pos j
          simp only [Option.map_some]
          show ((aS st, [0, 0, ((x.1 : Nat) : Int), ((x.2.toNat : Nat) : Int)]) : Layout × List Int) = _
          rw [Int.toNat_of_nonneg (by omega)]
      · rw [if_neg h] at C; cases C
/-! all of them -/
theorem step_ok {st : Stt} {c : List (List Int)} (g : Good st) (h : Call c) : Sim (VbjjacNeutral.step (aS st) c) (mStep st c) := by
  cases h with
  | make p l hl => exact make_ok g p l
  | put a w r k c => exact put_ok g a w r k c
  | take a w => exact take_ok g a w
  | link a p => exact link_ok g a p
  | loosen a => exact loosen_ok g a
  | settle a => exact settle_ok g a
  | catchUp => exact catch_ok g
  | object a => exact object_ok g a
  | shape a => exact shape_ok g a
  | same a b => exact same_ok g a b
  | find a w => exact find_ok g a w
  | sisters => exact sisters_ok g
  | would a w r k c => exact would_ok g a w r k c
  | judge l hl => exact judge_ok g l
  | totals => exact totals_ok g
theorem good_start : Good ([], []) := ⟨by simp, by simp, by simp, by simp, by simp, ⟨fun _ => 0, fun i t h => by simp at h⟩⟩
theorem played_ok : ∀ (cs : List (List (List Int))) (st : Stt), Good st → (∀ c ∈ cs, Call c) → PyFlat.played VbjjacNeutral.step (aS st) cs = PyFlat.played mStep st cs
  | [], _, _, _ => rfl
  | c :: cs, st, g, h => by
    obtain ⟨e1, e2⟩ := step_ok g (h c List.mem_cons_self)
    simp only [PyFlat.played, e1]
    rw [played_ok cs (mStep st c).1 e2 fun d hd => h d (List.mem_cons_of_mem _ hd)]
end Sb
end
section
set_option Elab.async false
set_option linter.all false
set_option maxRecDepth 100000
set_option maxHeartbeats 4000000
/-! ### the law -/
namespace Sb
theorem row_of {r x t : List Int} (h : PyFlat.row r = some (x, t)) : r = ((x.length : Int) :: x) ++ t := by
  unfold PyFlat.row at h
  cases r with
  | nil => cases h
  | cons n r =>
    simp only [] at h
    split at h
    · rename_i q
      simp only [Option.some.injEq, Prod.mk.injEq] at h
      obtain ⟨rfl, rfl⟩ := h
      have : ((r.take n.toNat).length : Int) = n := by
        rw [List.length_take, Nat.min_eq_left q.2]
        omega
      rw [this]
      simp
    · cases h
theorem rows_of : ∀ {k : Nat} {r : List Int} {xs : List (List Int)} {t : List Int}, PyFlat.rows k r = some (xs, t) → r = (xs.flatMap fun r => (r.length : Int) :: r) ++ t
  | 0, r, xs, t, h => by
    unfold PyFlat.rows at h
    simp only [Option.some.injEq, Prod.mk.injEq] at h
    obtain ⟨rfl, rfl⟩ := h
    rfl
  | k + 1, r, xs, t, h => by
    unfold PyFlat.rows at h
    cases e : PyFlat.row r with
    | none => rw [e] at h; cases h
    | some x =>
      obtain ⟨x, s⟩ := x
      rw [e] at h
      simp only [] at h
      cases e2 : PyFlat.rows k s with
      | none => rw [e2] at h; cases h
      | some y =>
        obtain ⟨ys, u⟩ := y
        rw [e2] at h
        simp only [Option.some.injEq, Prod.mk.injEq] at h
        obtain ⟨rfl, rfl⟩ := h
        have h1 := row_of e
        have h2 := rows_of e2
        rw [h1]
        conv => lhs; rw [h2]
        simp
theorem call_of {l : List Int} {c : List (List Int)} {t : List Int} (h : PyFlat.call PyVbjjac.shape l = some (c, t)) : l = flat c ++ t := by
  unfold PyFlat.call at h
  cases l with
  | nil => cases h
  | cons p r =>
    simp only [] at h
    cases e : PyVbjjac.shape p with
    | none => rw [e] at h; cases h
    | some x =>
      obtain ⟨n, k⟩ := x
      rw [e] at h
      simp only [] at h
      split at h
      · cases h
      · cases e2 : PyFlat.rows k (r.drop n) with
        | none => rw [e2] at h; cases h
        | some y =>
          obtain ⟨xs, u⟩ := y
          rw [e2] at h
          simp only [Option.some.injEq, Prod.mk.injEq] at h
          obtain ⟨rfl, rfl⟩ := h
          have h2 := rows_of e2
          simp only [flat, List.cons_append, List.append_assoc, ← h2, List.take_append_drop]
theorem calls_of : ∀ {f : Nat} {l : List Int} {cs : List (List (List Int))}, PyFlat.calls PyVbjjac.shape f l = some cs → l = cs.flatMap flat
  | f, [], cs, h => by
    cases f <;> (unfold PyFlat.calls at h; cases h; rfl)
  | 0, p :: r, cs, h => by
    unfold PyFlat.calls at h
    cases h
  | f + 1, p :: r, cs, h => by
    unfold PyFlat.calls at h
    cases e : PyFlat.call PyVbjjac.shape (p :: r) with
    | none => rw [e] at h; cases h
    | some x =>
      obtain ⟨c, t⟩ := x
      rw [e] at h
      simp only [] at h
      cases e2 : PyFlat.calls PyVbjjac.shape f t with
      | none => rw [e2] at h; cases h
      | some ds =>
        rw [e2] at h
        simp only [Option.some.injEq] at h
        subst h
        rw [call_of e, List.flatMap_cons]
        conv => lhs; rw [calls_of e2]
theorem whole_id (c : List (List Int)) : PyVbjjac.whole c = c := by
  unfold PyVbjjac.whole
  split <;> rfl
theorem call_asked {c : List (List Int)} (h : VbjjacNeutral.asked1 c = true) : Call c := by
  unfold VbjjacNeutral.asked1 at h
  split at h
  · simp only [VbjjacNeutral.isList, Bool.and_eq_true, decide_eq_true_eq] at h
    exact .make _ _ h.2.1
  · exact .put _ _ _ _ _
  · exact .take _ _
  · exact .link _ _
  · exact .loosen _
  · exact .settle _
  · exact .catchUp
  · exact .object _
  · exact .shape _
  · exact .same _ _
  · exact .find _ _
  · exact .sisters
  · exact .would _ _ _ _ _
  · simp only [VbjjacNeutral.isList, Bool.and_eq_true, decide_eq_true_eq] at h
    exact .judge _ h.1
  · exact .totals
  · cases h
theorem law (ns : List Int) (h : PyVbjjac.answers_asked ns = true) : answers_D [.inp ns] = some (.lst ((PyVbjjac.answers ns).map D.int)) := by
  unfold PyVbjjac.answers_asked at h
  cases e : PyFlat.calls PyVbjjac.shape ns.length ns with
  | none => rw [e] at h; cases h
  | some raw =>
    rw [e] at h
    simp only [Bool.and_eq_true] at h
    obtain ⟨⟨⟨⟨_, h1⟩, _⟩, h2⟩, h3⟩ := h
    have ew : raw.map PyVbjjac.whole = raw := by
      rw [List.map_congr_left fun c _ => whole_id c, List.map_id']
    rw [ew] at h2
    have hc : ∀ c ∈ raw, Call c := by
      intro c hc
      unfold VbjjacNeutral.asked at h2
      simp only [Bool.and_eq_true, List.all_eq_true] at h2
      exact call_asked (h2.1 c hc)
    have hl : raw.length ≤ 80 := by simpa [PyFlat.atMost] using h1
    have hp := played_ok raw ([], []) good_start hc
    have ea : PyVbjjac.answers ns = PyFlat.told (PyFlat.played mStep (([], []) : Stt) raw) := by
      unfold PyVbjjac.answers PyVbjjac.calls
      rw [e]
      simp only []
      rw [ew, ← hp]
      rfl
    have h3' : (PyVbjjac.answers ns).length ≤ line := by
      have q : (PyVbjjac.answers ns).length ≤ 10000000 := by
        unfold PyFlat.short at h3
        exact of_decide_eq_true h3
      unfold line
      omega
    rw [ea] at h3' ⊢
    exact answers_eq (fun st c g hc => (step_ok g hc).2) hc (calls_of e) (by omega) h3' good_start
end Sb
end
section
set_option Elab.async false
set_option linter.all false
set_option maxRecDepth 100000
set_option maxHeartbeats 4000000
namespace Sb
open PySem PySem.Spec PyProof.Rows L2
open PySem.W (Codec)
/-- what the row asks of answers -/
def spAns (K : PySem.W.Frag) : Sp := fun vs H Q _ => ∃ (a : Addr) (ns : List Int), vs = [.ref a] ∧ SqL K H a (ns.map V.int) ∧ PyVbjjac.answers_asked ns = true ∧ ∀ (H' : Hp) (p : Addr), H' p = some (.lst ((PyVbjjac.answers ns).map V.int)) → Q (.ref p) H'
theorem repL_ints {K : PySem.W.Frag} {H : Hp} : ∀ {ns : List Int} {vs : List V}, RepL K H vs (ns.map D.int) → vs = ns.map V.int
  | [], _, h => by cases h; rfl
  | n :: ns, _, h => by
    cases h with
    | cons r1 r2 =>
      cases r1
      rw [repL_ints r2]
      rfl
theorem sp_end {K : PySem.W.Frag} {vs : List V} {H : Hp} {Q : VK} {E : XK} (h : spAns K vs H Q E) : spD K 1 answers_D vs H Q E := by
  obtain ⟨a, ns, rfl, hs, hask, q⟩ := h
  have hv : ∀ H : Hp, vis (fun _ => false) H = H := fun H => by funext b; unfold vis; rw [if_neg Bool.false_ne_true]
  refine ⟨fun _ => false, [.inp ns], .lst ((PyVbjjac.answers ns).map D.int), rfl, fun a ha => (by cases ha), ?_, law ns hask, fun v H' s r => ?_⟩
  · rw [hv]
    exact .cons (.inp hs) .nil
  · rw [hv] at r
    cases r with
    | lst h1 r1 =>
      rw [repL_ints r1] at h1
      exact q H' _ h1
theorem end_mk {P : Program} {w : World} {K : PySem.W.Frag} {h : Heap} {mg : Str → Option Value} {fa f : Addr} (X : K.In h) (G : h.Ns mainGlobals mg) (hfa : mg "answers" = some (.ref fa)) (T : Txt K mg)
    (h_is_value : Has K mg "is_value" s_is_value)
    (h_constant : Has K mg "constant" s_constant)
    (h_has : Has K mg "has" s_has)
    (h_joined : Has K mg "joined" s_joined)
    (h_is_name : Has K mg "is_name" s_is_name)
    (h_is_zero_or_one : Has K mg "is_zero_or_one" s_is_zero_or_one)
    (h_is_field : Has K mg "is_field" s_is_field)
    (h_field_at : Has K mg "field_at" s_field_at)
    (h_listed_fields : Has K mg "listed_fields" s_listed_fields)
    (h_is_list_of_fields : Has K mg "is_list_of_fields" s_is_list_of_fields)
    (h_field_place : Has K mg "field_place" s_field_place)
    (h_has_name_twice : Has K mg "has_name_twice" s_has_name_twice)
    (h_told_field : Has K mg "told_field" s_told_field)
    (h_bare_shape : Has K mg "bare_shape" s_bare_shape)
    (h_constant_shape : Has K mg "constant_shape" s_constant_shape)
    (h_with_slot : Has K mg "with_slot" s_with_slot)
    (h_with_other_slot : Has K mg "with_other_slot" s_with_other_slot)
    (h_up_to : Has K mg "up_to" s_up_to)
    (h_with_prototype : Has K mg "with_prototype" s_with_prototype)
    (h_has_values : Has K mg "has_values" s_has_values)
    (h_told_shape : Has K mg "told_shape" s_told_shape)
    (h_told_layout : Has K mg "told_layout" s_told_layout)
    (h_how_many_shapes : Has K mg "how_many_shapes" s_how_many_shapes)
    (h_is_head : Has K mg "is_head" s_is_head)
    (h_kind_end : Has K mg "kind_end" s_kind_end)
    (h_slot_end : Has K mg "slot_end" s_slot_end)
    (h_claimed_slot : Has K mg "claimed_slot" s_claimed_slot)
    (h_claimed_field : Has K mg "claimed_field" s_claimed_field)
    (h_claimed_thing : Has K mg "claimed_thing" s_claimed_thing)
    (h_claimed_things : Has K mg "claimed_things" s_claimed_things)
    (h_fault_of : Has K mg "fault_of" s_fault_of)
    (h_judge : Has K mg "judge" s_judge)
    (h_sister_place : Has K mg "sister_place" s_sister_place)
    (h_with_risen : Has K mg "with_risen" s_with_risen)
    (h_layout_added : Has K mg "layout_added" s_layout_added)
    (h_layout_replaced : Has K mg "layout_replaced" s_layout_replaced)
    (h_layout_removed : Has K mg "layout_removed" s_layout_removed)
    (h_layout_linked : Has K mg "layout_linked" s_layout_linked)
    (h_layout_made : Has K mg "layout_made" s_layout_made)
    (h_outcome : Has K mg "outcome" s_outcome)
    (h_is_there : Has K mg "is_there" s_is_there)
    (h_is_known : Has K mg "is_known" s_is_known)
    (h_with_thing : Has K mg "with_thing" s_with_thing)
    (h_line_from : Has K mg "line_from" s_line_from)
    (h_with_field : Has K mg "with_field" s_with_field)
    (h_without_field : Has K mg "without_field" s_without_field)
    (h_caught_up : Has K mg "caught_up" s_caught_up)
    (h_put_refusal : Has K mg "put_refusal" s_put_refusal)
    (h_make_refusal : Has K mg "make_refusal" s_make_refusal)
    (h_make : Has K mg "make" s_make)
    (h_put : Has K mg "put" s_put)
    (h_take_out : Has K mg "take_out" s_take_out)
    (h_link : Has K mg "link" s_link)
    (h_loosen : Has K mg "loosen" s_loosen)
    (h_settle : Has K mg "settle" s_settle)
    (h_catch_up : Has K mg "catch_up" s_catch_up)
    (h_tell_object : Has K mg "tell_object" s_tell_object)
    (h_tell_shape : Has K mg "tell_shape" s_tell_shape)
    (h_tell_same_shape : Has K mg "tell_same_shape" s_tell_same_shape)
    (h_tell_find : Has K mg "tell_find" s_tell_find)
    (h_tell_sisters : Has K mg "tell_sisters" s_tell_sisters)
    (h_tell_would : Has K mg "tell_would" s_tell_would)
    (h_tell_totals : Has K mg "tell_totals" s_tell_totals)
    (h_call_size : Has K mg "call_size" s_call_size)
    (h_ordered : Has K mg "ordered" s_ordered)
    (h_told : Has K mg "told" s_told)
    (h_carried_out : Has K mg "carried_out" s_carried_out)
    {od an : Option Addr} {osl : Array (Option Value)} {oc kV doc pm cdv ct : Value} (a : PySem.W.nsIn K mainGlobals "answers" = some (some (.ref f)))
    (l : K.lookup f = some ⟨oc, od, .func (PySem.W.fnOf "answers" "answers" (defArgs s_answers) (defBody s_answers) (defScope s_answers) .none kV doc pm an cdv ct), osl⟩) (c : PySem.W.codeIn K cdv "answers" = true) (k : PySem.W.keepIn K (.ref f) = true) :
    ∃ fd : FuncData, (∀ (s : Shared) (us : List Value), us.length = (["calls"] : List Str).length → BindsTo s fd ⟨us, []⟩ ((["calls"] : List Str).zip us)) ∧ ∀ base : Heap, K.In base → base.Ns mainGlobals mg → FnOk P w K mg base CX0 11 fa fd ["calls"] (spAns K) := by
  have e := hfa.symm.trans (PySem.W.mg_of X G a)
  cases e
  have F := fun_mk (st := s_answers) l c k
  exact ⟨_, fun s us hu => match us, hu with | [_], _ => .of_eq rfl, fun base _ _ => (all_ok T h_is_value h_constant h_has h_joined h_is_name h_is_zero_or_one h_is_field h_field_at h_listed_fields h_is_list_of_fields h_field_place h_has_name_twice h_told_field h_bare_shape h_constant_shape h_with_slot h_with_other_slot h_up_to h_with_prototype h_has_values h_told_shape h_told_layout h_how_many_shapes h_is_head h_kind_end h_slot_end h_claimed_slot h_claimed_field h_claimed_thing h_claimed_things h_fault_of h_judge h_sister_place h_with_risen h_layout_added h_layout_replaced h_layout_removed h_layout_linked h_layout_made h_outcome h_is_there h_is_known h_with_thing h_line_from h_with_field h_without_field h_caught_up h_put_refusal h_make_refusal h_make h_put h_take_out h_link h_loosen h_settle h_catch_up h_tell_object h_tell_shape h_tell_same_shape h_tell_find h_tell_sisters h_tell_would h_tell_totals h_call_size h_ordered h_told h_carried_out F).imp fun vs H Q E h => sp_end h⟩
end Sb
open PySem PySem.W PyProof.Rows
set_option maxRecDepth 100000 in
set_option maxHeartbeats 0 in
theorem PySem.Challenge.cw_shapebets_s01_answers_holds : PySem.Challenge.rw_shapebets_s01_answers.Holds := by
  w_on; k_headS; (case hw => exact ⟨[.list [.int 6]], by decide +kernel, by decide +kernel⟩)
  k_fillS
  refine L2.walk_specK (r := PySem.Challenge.rw_shapebets_s01_answers) (k := 11) (CX := L2.CX0) (ps := ["calls"]) (sp := Sb.spAns) (by decide +kernel) rfl rfl ⟨rfl, by decide, by decide⟩ (fun w h Y => PySem.W.kIn_of Y) ?F ?S (fun _ _ _ _ z => z)
  case F =>
    intro w mg fa h Y KX G hmg
    refine' Sb.end_mk KX G hmg ?T ?h_is_value ?h_constant ?h_has ?h_joined ?h_is_name ?h_is_zero_or_one ?h_is_field ?h_field_at ?h_listed_fields ?h_is_list_of_fields ?h_field_place ?h_has_name_twice ?h_told_field ?h_bare_shape ?h_constant_shape ?h_with_slot ?h_with_other_slot ?h_up_to ?h_with_prototype ?h_has_values ?h_told_shape ?h_told_layout ?h_how_many_shapes ?h_is_head ?h_kind_end ?h_slot_end ?h_claimed_slot ?h_claimed_field ?h_claimed_thing ?h_claimed_things ?h_fault_of ?h_judge ?h_sister_place ?h_with_risen ?h_layout_added ?h_layout_replaced ?h_layout_removed ?h_layout_linked ?h_layout_made ?h_outcome ?h_is_there ?h_is_known ?h_with_thing ?h_line_from ?h_with_field ?h_without_field ?h_caught_up ?h_put_refusal ?h_make_refusal ?h_make ?h_put ?h_take_out ?h_link ?h_loosen ?h_settle ?h_catch_up ?h_tell_object ?h_tell_shape ?h_tell_same_shape ?h_tell_find ?h_tell_sisters ?h_tell_would ?h_tell_totals ?h_call_size ?h_ordered ?h_told ?h_carried_out ?ea ?el ?ec ?ek
    case T =>
      exact ⟨Sb.int_mk KX G (by k_is), Sb.int_mk KX G (by k_is), Sb.int_mk KX G (by k_is), Sb.int_mk KX G (by k_is), Sb.int_mk KX G (by k_is), Sb.int_mk KX G (by k_is), Sb.int_mk KX G (by k_is), Sb.int_mk KX G (by k_is), Sb.int_mk KX G (by k_is), Sb.int_mk KX G (by k_is), Sb.int_mk KX G (by k_is), Sb.int_mk KX G (by k_is), Sb.int_mk KX G (by k_is), Sb.int_mk KX G (by k_is), Sb.int_mk KX G (by k_is), Sb.int_mk KX G (by k_is), Sb.int_mk KX G (by k_is), Sb.int_mk KX G (by k_is), PySem.W.mg_none_of KX G (by k_is), PySem.W.mg_none_of KX G (by k_is), PySem.W.mg_none_of KX G (by k_is), PySem.W.mg_none_of KX G (by k_is), PySem.W.mg_none_of KX G (by k_is), PySem.W.mg_none_of KX G (by k_is), Sb.tup_mk KX G (by k_is) (by k_is) (.cons (.cons (.cons (.cons (.cons (.cons (.cons (.cons (.cons (.cons (.cons (.cons (.cons (.cons (.cons (.nil)))))))))))))))) (by decide)⟩
    case h_is_value => (refine' Sb.has_mk KX G ?a ?l ?c ?k; (case a => k_is); (case l => k_is); (case c => k_is); (case k => k_is))
    case h_constant => (refine' Sb.has_mk KX G ?a ?l ?c ?k; (case a => k_is); (case l => k_is); (case c => k_is); (case k => k_is))
    case h_has => (refine' Sb.has_mk KX G ?a ?l ?c ?k; (case a => k_is); (case l => k_is); (case c => k_is); (case k => k_is))
    case h_joined => (refine' Sb.has_mk KX G ?a ?l ?c ?k; (case a => k_is); (case l => k_is); (case c => k_is); (case k => k_is))
    case h_is_name => (refine' Sb.has_mk KX G ?a ?l ?c ?k; (case a => k_is); (case l => k_is); (case c => k_is); (case k => k_is))
    case h_is_zero_or_one => (refine' Sb.has_mk KX G ?a ?l ?c ?k; (case a => k_is); (case l => k_is); (case c => k_is); (case k => k_is))
    case h_is_field => (refine' Sb.has_mk KX G ?a ?l ?c ?k; (case a => k_is); (case l => k_is); (case c => k_is); (case k => k_is))
    case h_field_at => (refine' Sb.has_mk KX G ?a ?l ?c ?k; (case a => k_is); (case l => k_is); (case c => k_is); (case k => k_is))
    case h_listed_fields => (refine' Sb.has_mk KX G ?a ?l ?c ?k; (case a => k_is); (case l => k_is); (case c => k_is); (case k => k_is))
    case h_is_list_of_fields => (refine' Sb.has_mk KX G ?a ?l ?c ?k; (case a => k_is); (case l => k_is); (case c => k_is); (case k => k_is))
    case h_field_place => (refine' Sb.has_mk KX G ?a ?l ?c ?k; (case a => k_is); (case l => k_is); (case c => k_is); (case k => k_is))
    case h_has_name_twice => (refine' Sb.has_mk KX G ?a ?l ?c ?k; (case a => k_is); (case l => k_is); (case c => k_is); (case k => k_is))
    case h_told_field => (refine' Sb.has_mk KX G ?a ?l ?c ?k; (case a => k_is); (case l => k_is); (case c => k_is); (case k => k_is))
    case h_bare_shape => (refine' Sb.has_mk KX G ?a ?l ?c ?k; (case a => k_is); (case l => k_is); (case c => k_is); (case k => k_is))
    case h_constant_shape => (refine' Sb.has_mk KX G ?a ?l ?c ?k; (case a => k_is); (case l => k_is); (case c => k_is); (case k => k_is))
    case h_with_slot => (refine' Sb.has_mk KX G ?a ?l ?c ?k; (case a => k_is); (case l => k_is); (case c => k_is); (case k => k_is))
    case h_with_other_slot => (refine' Sb.has_mk KX G ?a ?l ?c ?k; (case a => k_is); (case l => k_is); (case c => k_is); (case k => k_is))
    case h_up_to => (refine' Sb.has_mk KX G ?a ?l ?c ?k; (case a => k_is); (case l => k_is); (case c => k_is); (case k => k_is))
    case h_with_prototype => (refine' Sb.has_mk KX G ?a ?l ?c ?k; (case a => k_is); (case l => k_is); (case c => k_is); (case k => k_is))
    case h_has_values => (refine' Sb.has_mk KX G ?a ?l ?c ?k; (case a => k_is); (case l => k_is); (case c => k_is); (case k => k_is))
    case h_told_shape => (refine' Sb.has_mk KX G ?a ?l ?c ?k; (case a => k_is); (case l => k_is); (case c => k_is); (case k => k_is))
    case h_told_layout => (refine' Sb.has_mk KX G ?a ?l ?c ?k; (case a => k_is); (case l => k_is); (case c => k_is); (case k => k_is))
    case h_how_many_shapes => (refine' Sb.has_mk KX G ?a ?l ?c ?k; (case a => k_is); (case l => k_is); (case c => k_is); (case k => k_is))
    case h_is_head => (refine' Sb.has_mk KX G ?a ?l ?c ?k; (case a => k_is); (case l => k_is); (case c => k_is); (case k => k_is))
    case h_kind_end => (refine' Sb.has_mk KX G ?a ?l ?c ?k; (case a => k_is); (case l => k_is); (case c => k_is); (case k => k_is))
    case h_slot_end => (refine' Sb.has_mk KX G ?a ?l ?c ?k; (case a => k_is); (case l => k_is); (case c => k_is); (case k => k_is))
    case h_claimed_slot => (refine' Sb.has_mk KX G ?a ?l ?c ?k; (case a => k_is); (case l => k_is); (case c => k_is); (case k => k_is))
    case h_claimed_field => (refine' Sb.has_mk KX G ?a ?l ?c ?k; (case a => k_is); (case l => k_is); (case c => k_is); (case k => k_is))
    case h_claimed_thing => (refine' Sb.has_mk KX G ?a ?l ?c ?k; (case a => k_is); (case l => k_is); (case c => k_is); (case k => k_is))
    case h_claimed_things => (refine' Sb.has_mk KX G ?a ?l ?c ?k; (case a => k_is); (case l => k_is); (case c => k_is); (case k => k_is))
    case h_fault_of => (refine' Sb.has_mk KX G ?a ?l ?c ?k; (case a => k_is); (case l => k_is); (case c => k_is); (case k => k_is))
    case h_judge => (refine' Sb.has_mk KX G ?a ?l ?c ?k; (case a => k_is); (case l => k_is); (case c => k_is); (case k => k_is))
    case h_sister_place => (refine' Sb.has_mk KX G ?a ?l ?c ?k; (case a => k_is); (case l => k_is); (case c => k_is); (case k => k_is))
    case h_with_risen => (refine' Sb.has_mk KX G ?a ?l ?c ?k; (case a => k_is); (case l => k_is); (case c => k_is); (case k => k_is))
    case h_layout_added => (refine' Sb.has_mk KX G ?a ?l ?c ?k; (case a => k_is); (case l => k_is); (case c => k_is); (case k => k_is))
    case h_layout_replaced => (refine' Sb.has_mk KX G ?a ?l ?c ?k; (case a => k_is); (case l => k_is); (case c => k_is); (case k => k_is))
    case h_layout_removed => (refine' Sb.has_mk KX G ?a ?l ?c ?k; (case a => k_is); (case l => k_is); (case c => k_is); (case k => k_is))
    case h_layout_linked => (refine' Sb.has_mk KX G ?a ?l ?c ?k; (case a => k_is); (case l => k_is); (case c => k_is); (case k => k_is))
    case h_layout_made => (refine' Sb.has_mk KX G ?a ?l ?c ?k; (case a => k_is); (case l => k_is); (case c => k_is); (case k => k_is))
    case h_outcome => (refine' Sb.has_mk KX G ?a ?l ?c ?k; (case a => k_is); (case l => k_is); (case c => k_is); (case k => k_is))
    case h_is_there => (refine' Sb.has_mk KX G ?a ?l ?c ?k; (case a => k_is); (case l => k_is); (case c => k_is); (case k => k_is))
    case h_is_known => (refine' Sb.has_mk KX G ?a ?l ?c ?k; (case a => k_is); (case l => k_is); (case c => k_is); (case k => k_is))
    case h_with_thing => (refine' Sb.has_mk KX G ?a ?l ?c ?k; (case a => k_is); (case l => k_is); (case c => k_is); (case k => k_is))
    case h_line_from => (refine' Sb.has_mk KX G ?a ?l ?c ?k; (case a => k_is); (case l => k_is); (case c => k_is); (case k => k_is))
    case h_with_field => (refine' Sb.has_mk KX G ?a ?l ?c ?k; (case a => k_is); (case l => k_is); (case c => k_is); (case k => k_is))
    case h_without_field => (refine' Sb.has_mk KX G ?a ?l ?c ?k; (case a => k_is); (case l => k_is); (case c => k_is); (case k => k_is))
    case h_caught_up => (refine' Sb.has_mk KX G ?a ?l ?c ?k; (case a => k_is); (case l => k_is); (case c => k_is); (case k => k_is))
    case h_put_refusal => (refine' Sb.has_mk KX G ?a ?l ?c ?k; (case a => k_is); (case l => k_is); (case c => k_is); (case k => k_is))
    case h_make_refusal => (refine' Sb.has_mk KX G ?a ?l ?c ?k; (case a => k_is); (case l => k_is); (case c => k_is); (case k => k_is))
    case h_make => (refine' Sb.has_mk KX G ?a ?l ?c ?k; (case a => k_is); (case l => k_is); (case c => k_is); (case k => k_is))
    case h_put => (refine' Sb.has_mk KX G ?a ?l ?c ?k; (case a => k_is); (case l => k_is); (case c => k_is); (case k => k_is))
    case h_take_out => (refine' Sb.has_mk KX G ?a ?l ?c ?k; (case a => k_is); (case l => k_is); (case c => k_is); (case k => k_is))
    case h_link => (refine' Sb.has_mk KX G ?a ?l ?c ?k; (case a => k_is); (case l => k_is); (case c => k_is); (case k => k_is))
    case h_loosen => (refine' Sb.has_mk KX G ?a ?l ?c ?k; (case a => k_is); (case l => k_is); (case c => k_is); (case k => k_is))
    case h_settle => (refine' Sb.has_mk KX G ?a ?l ?c ?k; (case a => k_is); (case l => k_is); (case c => k_is); (case k => k_is))
    case h_catch_up => (refine' Sb.has_mk KX G ?a ?l ?c ?k; (case a => k_is); (case l => k_is); (case c => k_is); (case k => k_is))
    case h_tell_object => (refine' Sb.has_mk KX G ?a ?l ?c ?k; (case a => k_is); (case l => k_is); (case c => k_is); (case k => k_is))
    case h_tell_shape => (refine' Sb.has_mk KX G ?a ?l ?c ?k; (case a => k_is); (case l => k_is); (case c => k_is); (case k => k_is))
    case h_tell_same_shape => (refine' Sb.has_mk KX G ?a ?l ?c ?k; (case a => k_is); (case l => k_is); (case c => k_is); (case k => k_is))
    case h_tell_find => (refine' Sb.has_mk KX G ?a ?l ?c ?k; (case a => k_is); (case l => k_is); (case c => k_is); (case k => k_is))
    case h_tell_sisters => (refine' Sb.has_mk KX G ?a ?l ?c ?k; (case a => k_is); (case l => k_is); (case c => k_is); (case k => k_is))
    case h_tell_would => (refine' Sb.has_mk KX G ?a ?l ?c ?k; (case a => k_is); (case l => k_is); (case c => k_is); (case k => k_is))
    case h_tell_totals => (refine' Sb.has_mk KX G ?a ?l ?c ?k; (case a => k_is); (case l => k_is); (case c => k_is); (case k => k_is))
    case h_call_size => (refine' Sb.has_mk KX G ?a ?l ?c ?k; (case a => k_is); (case l => k_is); (case c => k_is); (case k => k_is))
    case h_ordered => (refine' Sb.has_mk KX G ?a ?l ?c ?k; (case a => k_is); (case l => k_is); (case c => k_is); (case k => k_is))
    case h_told => (refine' Sb.has_mk KX G ?a ?l ?c ?k; (case a => k_is); (case l => k_is); (case c => k_is); (case k => k_is))
    case h_carried_out => (refine' Sb.has_mk KX G ?a ?l ?c ?k; (case a => k_is); (case l => k_is); (case c => k_is); (case k => k_is))
    (case ea => k_is); (case el => k_is); (case ec => k_is); (case ek => k_is)
  case S =>
    intro K H xs a hO hwi hask hx
    cases hx with
    | cons h1 h2 =>
      cases h2
      cases h1 with
      | lst hs ha =>
        have e := L2.ints_dw a.1 _ ha
        subst e
        exact ⟨_, a.1, rfl, hs, hask, fun H' p hp => .lst (L2.SqL.of hp) (L2.dw_ints _)⟩
#print axioms PySem.Challenge.cw_shapebets_s01_answers_holds
end
