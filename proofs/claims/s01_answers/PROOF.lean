import PyProof.Rows.All
import Wide.All
import OpenK.AllK
import Wide.FinOn
import Open.SpecLaws
import KE.OsGo
import KE.KDictCopyH
import PyProof.Rows.TupDisplay
import HandS.ForMost
import HandS.DictTup
import HandS.ForSpec
import HandS.Walk
import HandS.Sort
import HandS.SortRule
import HandS.Remove
import HandS.TupAny
import HandS.TupMul
import HandS.CallLocal
import HandS.WrittenGet
import HandS.Zip
import HandS.Conv
import HandS.SetFor
import PySem.Challenge.RW_spanningtrees_s01_answers
set_option Elab.async false
set_option linter.all false
section
namespace ST
/-! Determinants by the first row: A x phi cols is the alternating sum, over a column taken out, of x there times phi of the rest. -/
def A (x : Nat → Int) : (List Nat → Int) → List Nat → Int
  | _, [] => 0
  | phi, c :: cs => x c * phi cs - A x (fun l => phi (c :: l)) cs
def base (l : List Nat) : Int := match l with
  | [] => 1
  | _ :: _ => 0
def Fr (phi : List Nat → Int) : List (Nat → Int) → List Nat → Int
  | [] => phi
  | r :: rs => A r (Fr phi rs)
abbrev F (rows : List (Nat → Int)) : List Nat → Int := Fr base rows

theorem A_lin (x : Nat → Int) (s t : Int) : ∀ (cols : List Nat) (phi psi : List Nat → Int),
    A x (fun l => s * phi l + t * psi l) cols = s * A x phi cols + t * A x psi cols
  | [], _, _ => by simp [A]
  | c :: cs, phi, psi => by
    simp only [A]
    rw [A_lin x s t cs (fun l => phi (c :: l)) (fun l => psi (c :: l))]
    simp only [Int.mul_add, Int.sub_eq_add_neg, Int.neg_add, Int.mul_neg]
    ac_rfl
theorem A_smul (x : Nat → Int) (s : Int) (cols : List Nat) (phi : List Nat → Int) :
    A x (fun l => s * phi l) cols = s * A x phi cols := by
  have h := A_lin x s 0 cols phi phi
  simpa using h
theorem A_zero_phi (x : Nat → Int) (cols : List Nat) : A x (fun _ => 0) cols = 0 := by
  have h := A_smul x 0 cols (fun _ => 0)
  simpa using h
theorem A_congr_phi (x : Nat → Int) : ∀ (cols : List Nat) (phi psi : List Nat → Int), (∀ l, l.length + 1 = cols.length → (∀ c ∈ l, c ∈ cols) → phi l = psi l) → A x phi cols = A x psi cols
  | [], _, _, _ => rfl
  | c :: cs, phi, psi, h => by
    simp only [A]
    rw [h cs rfl (fun d hd => List.mem_cons_of_mem _ hd), A_congr_phi x cs (fun l => phi (c :: l)) (fun l => psi (c :: l)) (fun l hl hm => h (c :: l) (by simp; omega) (fun d hd => by
      rcases List.mem_cons.mp hd with e | hd
      · subst e; exact List.mem_cons_self
      · exact List.mem_cons_of_mem _ (hm d hd)))]
theorem A_congr_x (x y : Nat → Int) : ∀ (cols : List Nat) (phi : List Nat → Int), (∀ c ∈ cols, x c = y c) → A x phi cols = A y phi cols
  | [], _, _ => rfl
  | c :: cs, phi, h => by
    simp only [A]
    rw [h c List.mem_cons_self, A_congr_x x y cs _ (fun d hd => h d (List.mem_cons_of_mem _ hd))]
theorem A_add_x (x y : Nat → Int) : ∀ (cols : List Nat) (phi : List Nat → Int), A (fun c => x c + y c) phi cols = A x phi cols + A y phi cols
  | [], _ => by simp [A]
  | c :: cs, phi => by
    simp only [A]
    rw [A_add_x x y cs]
    simp only [Int.add_mul, Int.sub_eq_add_neg, Int.neg_add]
    ac_rfl
theorem A_smul_x (x : Nat → Int) (s : Int) : ∀ (cols : List Nat) (phi : List Nat → Int), A (fun c => s * x c) phi cols = s * A x phi cols
  | [], _ => by simp [A]
  | c :: cs, phi => by
    simp only [A]
    rw [A_smul_x x s cs]
    simp only [Int.mul_sub, Int.mul_assoc]
theorem A_zero_x (cols : List Nat) (phi : List Nat → Int) (x : Nat → Int) (h : ∀ c ∈ cols, x c = 0) : A x phi cols = 0 := by
  rw [A_congr_x x (fun c => 0 * x c) cols phi (fun c hc => by simp [h c hc]), A_smul_x]
  simp
/-- two rows change places -/
theorem A_swap (x y : Nat → Int) : ∀ (cols : List Nat) (phi : List Nat → Int), A x (A y phi) cols = - A y (A x phi) cols
  | [], _ => by simp [A]
  | c :: cs, phi => by
    have e : ∀ (u v : Nat → Int), A u (A v phi) (c :: cs) = u c * A v phi cs - v c * A u phi cs + A u (A v (fun l => phi (c :: l))) cs := by
      intro u v
      show u c * A v phi cs - A u (fun l => v c * phi l - A v (fun l => phi (c :: l)) l) cs = _
      have h := A_lin u (v c) (-1) cs phi (A v (fun l => phi (c :: l)))
      have h2 : A u (fun l => v c * phi l - A v (fun l => phi (c :: l)) l) cs = A u (fun l => v c * phi l + (-1) * A v (fun l => phi (c :: l)) l) cs :=
        A_congr_phi u cs _ _ (fun l _ _ => by omega)
      rw [h2, h]
      omega
    rw [e x y, e y x, A_swap x y cs]
    omega
theorem A_same (x : Nat → Int) (cols : List Nat) (phi : List Nat → Int) : A x (A x phi) cols = 0 := by
  have := A_swap x x cols phi
  omega
/-- columns change places -/
def Alt (phi : List Nat → Int) : Prop := ∀ (pre : List Nat) (c d : Nat) (post : List Nat), phi (pre ++ c :: d :: post) = - phi (pre ++ d :: c :: post)
theorem Alt.cons {phi : List Nat → Int} (h : Alt phi) (p : Nat) : Alt (fun l => phi (p :: l)) := fun pre c d post => h (p :: pre) c d post
theorem A_neg_phi (x : Nat → Int) (cols : List Nat) (phi : List Nat → Int) : A x (fun l => - phi l) cols = - A x phi cols := by
  have h := A_smul x (-1) cols phi
  have h2 : A x (fun l => - phi l) cols = A x (fun l => (-1) * phi l) cols := A_congr_phi x cols _ _ (fun l _ _ => by omega)
  rw [h2, h]; omega
theorem A_alt (x : Nat → Int) : ∀ (pre : List Nat) (phi : List Nat → Int) (_ : Alt phi) (c d : Nat) (post : List Nat), A x phi (pre ++ c :: d :: post) = - A x phi (pre ++ d :: c :: post)
  | [], phi, h, c, d, post => by
    simp only [List.nil_append, A]
    have e : A x (fun l => phi (c :: d :: l)) post = - A x (fun l => phi (d :: c :: l)) post := by
      rw [← A_neg_phi]
      exact A_congr_phi x post _ _ (fun l _ _ => h [] c d l)
    rw [e]
    omega
  | p :: pre, phi, h, c, d, post => by
    simp only [List.cons_append, A]
    rw [h pre c d post, A_alt x pre _ (h.cons p) c d post, Int.mul_neg]
    omega
theorem base_alt : Alt base := fun pre c d post => by
  cases pre <;> rfl
theorem Fr_alt {phi : List Nat → Int} (h : Alt phi) : ∀ rows : List (Nat → Int), Alt (Fr phi rows)
  | [] => h
  | r :: rs => fun pre c d post => A_alt r pre _ (Fr_alt h rs) c d post
theorem F_alt (rows : List (Nat → Int)) : Alt (F rows) := Fr_alt base_alt rows
theorem Fr_smul (s : Int) (phi : List Nat → Int) : ∀ (rows : List (Nat → Int)) (cols : List Nat), Fr (fun l => s * phi l) rows cols = s * Fr phi rows cols
  | [], _ => rfl
  | r :: rs, cols => by
    show A r (Fr (fun l => s * phi l) rs) cols = s * A r (Fr phi rs) cols
    rw [← A_smul]
    exact A_congr_phi r cols _ _ (fun l _ _ => Fr_smul s phi rs l)
/-- the same order of rows and of columns is all one -/
theorem perm_sign (R : Nat → Nat → Int) {l l' : List Nat} (p : l.Perm l') : ∃ s : Int, s * s = 1 ∧ (∀ phi, Alt phi → phi l' = s * phi l) ∧ (∀ phi cols, Fr phi (l'.map R) cols = s * Fr phi (l.map R) cols) := by
  induction p with
  | nil => exact ⟨1, rfl, fun _ _ => by simp, fun _ _ => by simp⟩
  | cons x _ ih =>
    obtain ⟨s, hs, h1, h2⟩ := ih
    refine ⟨s, hs, fun phi ha => h1 (fun l => phi (x :: l)) (ha.cons x), fun phi cols => ?_⟩
    simp only [List.map_cons, Fr]
    rw [← A_smul]
    exact A_congr_phi _ cols _ _ (fun l _ _ => h2 phi l)
  | swap x y l =>
    refine ⟨-1, rfl, fun phi ha => ?_, fun phi cols => ?_⟩
    · have := ha [] x y l
      simp only [List.nil_append] at this
      omega
    · simp only [List.map_cons, Fr]
      rw [A_swap]
      omega
  | trans _ _ ih1 ih2 =>
    obtain ⟨s, hs, h1, h2⟩ := ih1
    obtain ⟨t, ht, h3, h4⟩ := ih2
    refine ⟨t * s, ?_, fun phi ha => ?_, fun phi cols => ?_⟩
    · calc t * s * (t * s) = (t * t) * (s * s) := by ac_rfl
        _ = 1 := by rw [hs, ht]; rfl
    · rw [h3 phi ha, h1 phi ha, Int.mul_assoc]
    · rw [h4 phi cols, h2 phi cols, Int.mul_assoc]
/-- the number of a table given by its rows' and columns' names -/
def D (R : Nat → Nat → Int) (vs : List Nat) : Int := F (vs.map R) vs
theorem D_perm (R : Nat → Nat → Int) {l l' : List Nat} (p : l.Perm l') : D R l' = D R l := by
  obtain ⟨s, hs, h1, h2⟩ := perm_sign R p
  unfold D F
  rw [h2, h1 _ (Fr_alt base_alt _), ← Int.mul_assoc, hs, Int.one_mul]
theorem F_congr : ∀ (rows rows' : List (Nat → Int)) (cols : List Nat), rows.length = rows'.length → (∀ (i c : Nat) (r r' : Nat → Int), rows[i]? = some r → rows'[i]? = some r' → c ∈ cols → r c = r' c) → F rows cols = F rows' cols
  | [], [], _, _, _ => rfl
  | [], _ :: _, _, h, _ => by simp at h
  | _ :: _, [], _, h, _ => by simp at h
  | r :: rs, r' :: rs', cols, hl, h => by
    show A r (F rs) cols = A r' (F rs') cols
    rw [A_congr_x r r' cols _ (fun c hc => h 0 c r r' rfl rfl hc)]
    exact A_congr_phi r' cols _ _ (fun l _ hm => F_congr rs rs' l (by simpa using hl) (fun i c q q' e e' hc => h (i + 1) c q q' (by simpa using e) (by simpa using e') (hm c hc)))
theorem D_congr {R S : Nat → Nat → Int} {vs : List Nat} (h : ∀ a ∈ vs, ∀ b ∈ vs, R a b = S a b) : D R vs = D S vs := by
  unfold D
  refine F_congr _ _ _ (by simp) (fun i c r r' e e' hc => ?_)
  rw [List.getElem?_map] at e e'
  cases q : vs[i]? with
  | none => rw [q] at e; simp at e
  | some v =>
    rw [q] at e e'
    simp only [Option.map_some, Option.some.injEq] at e e'
    subst e e'
    exact h v (List.mem_of_getElem? q) c hc
/-- the first column is a sum -/
theorem F_col (a b d : Nat) : ∀ (rows rows' : List (Nat → Int)) (cs : List Nat), rows.length = rows'.length →
    (∀ (i : Nat) (r r' : Nat → Int), rows[i]? = some r → rows'[i]? = some r' → r' d = r a + r b ∧ ∀ c ∈ cs, r' c = r c) →
    rows.length = cs.length + 1 → F rows' (d :: cs) = F rows (a :: cs) + F rows (b :: cs)
  | [], _, _, _, _, h => by simp at h
  | _ :: _, [], _, h, _, _ => by simp at h
  | r :: rs, r' :: rs', cs, hl, h, hn => by
    show A r' (F rs') (d :: cs) = A r (F rs) (a :: cs) + A r (F rs) (b :: cs)
    simp only [A]
    have h0 := h 0 r r' rfl rfl
    have e1 : F rs' cs = F rs cs := F_congr rs' rs cs (by simp at hl; omega) (fun i c q' q e' e hc => (h (i + 1) q q' (by simpa using e) (by simpa using e')).2 c hc)
    have e2 : A r' (fun l => F rs' (d :: l)) cs = A r (fun l => F rs (a :: l)) cs + A r (fun l => F rs (b :: l)) cs := by
      rw [A_congr_x r' r cs _ (fun c hc => h0.2 c hc)]
      have hh := A_lin r 1 1 cs (fun l => F rs (a :: l)) (fun l => F rs (b :: l))
      simp only [Int.one_mul] at hh
      rw [← hh]
      refine A_congr_phi r cs _ _ (fun l hl' hm => ?_)
      exact F_col a b d rs rs' l (by simpa using hl) (fun i q q' e e' => ⟨(h (i + 1) q q' (by simpa using e) (by simpa using e')).1, fun c hc => (h (i + 1) q q' (by simpa using e) (by simpa using e')).2 c (hm c hc)⟩) (by simp at hn; omega)
    rw [e1, e2, h0.1, Int.add_mul]
    omega
end ST
end
section
namespace ST
/-! The table of ways, and how many trees: by the first way, without it or with it. -/
def ind (a b : Nat) : Int := if a = b then 1 else 0
theorem ind_self (a : Nat) : ind a a = 1 := if_pos rfl
theorem ind_ne {a b : Nat} (h : a ≠ b) : ind a b = 0 := if_neg h
theorem ind_not {a c : Nat} {vs : List Nat} (ha : a ∉ vs) (hc : c ∈ vs) : ind a c = 0 := ind_ne (fun e => ha (e ▸ hc))
theorem ind_not' {a c : Nat} {vs : List Nat} (ha : a ∉ vs) (hc : c ∈ vs) : ind c a = 0 := ind_ne (fun e => ha (e ▸ hc))
theorem ind_symm (a b : Nat) : ind a b = ind b a := by unfold ind; simp only [eq_comm]
def L : List (Nat × Nat) → Nat → Nat → Int
  | [], _, _ => 0
  | w :: r, a, b => (ind w.1 a - ind w.2 a) * (ind w.1 b - ind w.2 b) + L r a b
/-- classes: that of a is made that of b -/
def mg {β : Type} [DecidableEq β] (s : Nat → β) (a b : Nat) : Nat → β := fun x => if s x = s a then s b else s x
def TT {β : Type} [DecidableEq β] : Nat → List (Nat × Nat) → (Nat → β) → Nat
  | k, [], _ => if k = 1 then 1 else 0
  | k, w :: r, s => TT k r s + if s w.1 = s w.2 then 0 else TT (k - 1) r (mg s w.1 w.2)
theorem mg_iff {β : Type} [DecidableEq β] {s : Nat → β} {a b x y : Nat} : mg s a b x = mg s a b y ↔ (s x = s y ∨ (s x = s a ∧ s y = s b) ∨ (s x = s b ∧ s y = s a)) := by
  unfold mg
  by_cases h1 : s x = s a
  · rw [if_pos h1]
    by_cases h2 : s y = s a
    · rw [if_pos h2]
      exact ⟨fun _ => .inl (h1.trans h2.symm), fun _ => rfl⟩
    · rw [if_neg h2]
      constructor
      · intro h; exact .inr (.inl ⟨h1, h.symm⟩)
      · rintro (h | h | h)
        · exact absurd (h.symm.trans h1) h2
        · exact h.2.symm
        · exact absurd h.2 h2
  · rw [if_neg h1]
    by_cases h2 : s y = s a
    · rw [if_pos h2]
      constructor
      · intro h; exact .inr (.inr ⟨h, h2⟩)
      · rintro (h | h | h)
        · exact absurd (h.trans h2) h1
        · exact absurd h.1 h1
        · exact h.1
    · rw [if_neg h2]
      constructor
      · intro h; exact .inl h
      · rintro (h | h | h)
        · exact h
        · exact absurd h.1 h1
        · exact absurd h.2 h2
/-- the classes alone count -/
theorem TT_ker {β γ : Type} [DecidableEq β] [DecidableEq γ] (P : Nat → Prop) : ∀ (r : List (Nat × Nat)) (k : Nat) (s : Nat → β) (t : Nat → γ), (∀ w ∈ r, P w.1 ∧ P w.2) → (∀ x y, P x → P y → (s x = s y ↔ t x = t y)) → TT k r s = TT k r t
  | [], _, _, _, _, _ => rfl
  | w :: r, k, s, t, hP, h => by
    have hw := hP w List.mem_cons_self
    have hr : ∀ v ∈ r, P v.1 ∧ P v.2 := fun v hv => hP v (List.mem_cons_of_mem _ hv)
    simp only [TT]
    rw [TT_ker P r k s t hr h]
    by_cases e : s w.1 = s w.2
    · rw [if_pos e, if_pos ((h _ _ hw.1 hw.2).mp e)]
    · rw [if_neg e, if_neg (fun q => e ((h _ _ hw.1 hw.2).mpr q))]
      rw [TT_ker P r (k - 1) (mg s w.1 w.2) (mg t w.1 w.2) hr (fun x y hx hy => by
        rw [mg_iff, mg_iff, h x y hx hy, h x w.1 hx hw.1, h y w.2 hy hw.2, h x w.2 hx hw.2, h y w.1 hy hw.1])]

/-- a diagonal number one more -/
theorem D_diag {R S : Nat → Nat → Int} {a : Nat} {vs : List Nat} (ha : a ∉ vs) (h : ∀ u ∈ a :: vs, ∀ v ∈ a :: vs, S u v = R u v + ind u a * ind v a) :
    D S (a :: vs) = D R (a :: vs) + D R vs := by
  have iself : ind a a = 1 := if_pos rfl
  have ine : ∀ c ∈ vs, ind c a = 0 := fun c hc => ind_not' ha hc
  have e1 : D S (a :: vs) = A (S a) (F (vs.map S)) (a :: vs) := rfl
  have e2 : A (S a) (F (vs.map S)) (a :: vs) = A (S a) (F (vs.map R)) (a :: vs) := by
    refine A_congr_phi _ _ _ _ (fun l _ hm => F_congr _ _ _ (by simp) (fun i c r r' q q' hc => ?_))
    rw [List.getElem?_map] at q q'
    cases z : vs[i]? with
    | none => rw [z] at q; simp at q
    | some v =>
      rw [z] at q q'
      simp only [Option.map_some, Option.some.injEq] at q q'
      subst q q'
      have hv := List.mem_of_getElem? z
      rw [h v (List.mem_cons_of_mem _ hv) c (hm c hc), ine v hv]
      simp
  have e3 : A (S a) (F (vs.map R)) (a :: vs) = A (fun c => R a c + ind c a) (F (vs.map R)) (a :: vs) := by
    refine A_congr_x _ _ _ _ (fun c hc => ?_)
    rw [h a List.mem_cons_self c hc, iself]
    simp
  rw [e1, e2, e3, A_add_x]
  have e4 : A (fun c => ind c a) (F (vs.map R)) (a :: vs) = F (vs.map R) vs := by
    simp only [A, iself]
    rw [A_zero_x vs _ _ ine]
    omega
  rw [e4]
  rfl
/-- a way between two more -/
theorem D_two {R S Q : Nat → Nat → Int} {a b : Nat} {vs : List Nat} (hab : a ≠ b) (ha : a ∉ vs) (hb : b ∉ vs)
    (h : ∀ u ∈ a :: b :: vs, ∀ v ∈ a :: b :: vs, S u v = R u v + (ind a u - ind b u) * (ind a v - ind b v))
    (hQb : ∀ v ∈ vs, Q b v = R a v + R b v) (hQbb : Q b b = (R a a + R b a) + (R a b + R b b))
    (hQ : ∀ u ∈ vs, Q u b = R u a + R u b ∧ ∀ v ∈ vs, Q u v = R u v) :
    D S (a :: b :: vs) = D R (a :: b :: vs) + D Q (b :: vs) := by
  let U : Nat → Int := fun v => ind a v - ind b v
  let rows := vs.map R
  have ina : ∀ c ∈ vs, ind a c = 0 := fun c hc => ind_not ha hc
  have inb : ∀ c ∈ vs, ind b c = 0 := fun c hc => ind_not hb hc
  have iaa : ind a a = 1 := if_pos rfl
  have ibb : ind b b = 1 := if_pos rfl
  have iab : ind a b = 0 := if_neg hab
  have iba : ind b a = 0 := if_neg (Ne.symm hab)
  have ma : a ∈ a :: b :: vs := List.mem_cons_self
  have mb : b ∈ a :: b :: vs := List.mem_cons_of_mem _ List.mem_cons_self
  have e1 : D S (a :: b :: vs) = A (fun c => R a c + U c) (A (fun c => R b c + (-1) * U c) (F rows)) (a :: b :: vs) := by
    show A (S a) (A (S b) (F (vs.map S))) (a :: b :: vs) = _
    rw [A_congr_x (S a) (fun c => R a c + U c) (a :: b :: vs) _ (fun c hc => by rw [h a ma c hc, iaa, iba]; simp [U])]
    refine A_congr_phi _ _ _ _ (fun l _ hm => ?_)
    rw [A_congr_x (S b) (fun c => R b c + (-1) * U c) l _ (fun c hc => by rw [h b mb c (hm c hc), iab, ibb]; simp [U])]
    refine A_congr_phi _ _ _ _ (fun l' _ hm' => F_congr _ _ _ (by simp [rows]) (fun i c r r' q q' hc => ?_))
    simp only [rows] at q'
    rw [List.getElem?_map] at q q'
    cases z : vs[i]? with
    | none => rw [z] at q; simp at q
    | some v =>
      rw [z] at q q'
      simp only [Option.map_some, Option.some.injEq] at q q'
      subst q q'
      have hv := List.mem_of_getElem? z
      rw [h v (List.mem_cons_of_mem _ (List.mem_cons_of_mem _ hv)) c (hm c (hm' c hc)), ina v hv, inb v hv]
      simp
  have inner : ∀ x l, A x (A (fun c => R b c + (-1) * U c) (F rows)) l = A x (A (R b) (F rows)) l - A x (A U (F rows)) l := by
    intro x l
    have hh := A_lin x 1 (-1) l (A (R b) (F rows)) (A U (F rows))
    have h2 : A x (A (fun c => R b c + (-1) * U c) (F rows)) l = A x (fun l => 1 * A (R b) (F rows) l + (-1) * A U (F rows) l) l := by
      refine A_congr_phi _ _ _ _ (fun l' _ _ => ?_)
      rw [A_add_x, A_smul_x]
      omega
    rw [h2, hh]
    omega
  have e2 : D S (a :: b :: vs) = D R (a :: b :: vs) + A U (A (fun c => R a c + R b c) (F rows)) (a :: b :: vs) := by
    rw [e1, A_add_x, inner, inner, A_same, A_swap (R a) U]
    have h2 : A U (A (fun c => R a c + R b c) (F rows)) (a :: b :: vs) = A U (A (R a) (F rows)) (a :: b :: vs) + A U (A (R b) (F rows)) (a :: b :: vs) := by
      have hh := A_lin U 1 1 (a :: b :: vs) (A (R a) (F rows)) (A (R b) (F rows))
      have h3 : A U (A (fun c => R a c + R b c) (F rows)) (a :: b :: vs) = A U (fun l => 1 * A (R a) (F rows) l + 1 * A (R b) (F rows) l) (a :: b :: vs) := by
        refine A_congr_phi _ _ _ _ (fun l' _ _ => ?_)
        rw [A_add_x]
        omega
      rw [h3, hh]
      omega
    rw [h2]
    show A (R a) (A (R b) (F rows)) (a :: b :: vs) - - A U (A (R a) (F rows)) (a :: b :: vs) + (A U (A (R b) (F rows)) (a :: b :: vs) - 0) = A (R a) (A (R b) (F rows)) (a :: b :: vs) + _
    omega
  rw [e2]
  congr 1
  let S' : List (Nat → Int) := (fun c => R a c + R b c) :: rows
  show A U (F S') (a :: b :: vs) = F ((b :: vs).map Q) (b :: vs)
  have e3 : A U (F S') (a :: b :: vs) = F S' (a :: vs) + F S' (b :: vs) := by
    simp only [A]
    rw [A_zero_x vs _ U (fun c hc => by simp [U, ina c hc, inb c hc])]
    have q1 : U a = 1 := by simp [U, iaa, iba]
    have q2 : U b = -1 := by simp [U, iab, ibb]
    rw [q1, q2]
    omega
  rw [e3, F_col a b b S' ((b :: vs).map Q) vs (by simp [S', rows]) ?_ (by simp [S', rows])]
  intro i r r' q q'
  cases i with
  | zero =>
    simp only [S', List.getElem?_cons_zero, Option.some.injEq, List.map_cons] at q q'
    subst q q'
    exact ⟨by rw [hQbb], fun c hc => hQb c hc⟩
  | succ i =>
    simp only [S', rows, List.map_cons, List.getElem?_cons_succ] at q q'
    rw [List.getElem?_map] at q q'
    cases z : vs[i]? with
    | none => rw [z] at q; simp at q
    | some v =>
      rw [z] at q q'
      simp only [Option.map_some, Option.some.injEq] at q q'
      subst q q'
      exact hQ v (List.mem_of_getElem? z)

theorem L_same {a : Nat} {r : List (Nat × Nat)} {u v : Nat} : L ((a, a) :: r) u v = L r u v := by simp [L]
def onto (f : Nat → Nat) (es : List (Nat × Nat)) : List (Nat × Nat) := es.map fun w => (f w.1, f w.2)
/-- places made one -/
theorem L_merge (a b : Nat) (hab : a ≠ b) : ∀ (es : List (Nat × Nat)) (u v : Nat), u ≠ a → v ≠ a →
    L (onto (fun x => if x = a then b else x) es) u v = L es u v + (if u = b then L es a v else 0) + (if v = b then L es u a else 0) + (if u = b then if v = b then L es a a else 0 else 0)
  | [], u, v, _, _ => by simp [L, onto]
  | w :: r, u, v, hu, hv => by
    have ih := L_merge a b hab r u v hu hv
    have g : ∀ x z : Nat, z ≠ a → ind (if x = a then b else x) z = ind x z + if z = b then ind x a else 0 := by
      intro x z hz
      by_cases hx : x = a
      · rw [if_pos hx, hx]
        have q : ind a z = 0 := if_neg (Ne.symm hz)
        have q2 : ind a a = 1 := if_pos rfl
        rw [q, q2]
        by_cases hz2 : z = b
        · rw [if_pos hz2, hz2]; simp [ind]
        · rw [if_neg hz2]; simp [ind, Ne.symm hz2]
      · rw [if_neg hx]
        have q : ind x a = 0 := if_neg hx
        rw [q]; simp
    show (ind (if w.1 = a then b else w.1) u - ind (if w.2 = a then b else w.2) u) * (ind (if w.1 = a then b else w.1) v - ind (if w.2 = a then b else w.2) v) + L (onto (fun x => if x = a then b else x) r) u v = _
    rw [ih, g _ _ hu, g _ _ hu, g _ _ hv, g _ _ hv]
    simp only [L]
    by_cases h1 : u = b <;> by_cases h2 : v = b <;> simp only [h1, h2, if_true, if_false, Int.add_zero]
    · simp only [Int.sub_eq_add_neg, Int.mul_add, Int.add_mul, Int.neg_add, Int.mul_neg, Int.neg_mul]
      omega
    · simp only [Int.sub_eq_add_neg, Int.mul_add, Int.add_mul, Int.neg_add, Int.mul_neg, Int.neg_mul]
      omega
    · simp only [Int.sub_eq_add_neg, Int.mul_add, Int.add_mul, Int.neg_add, Int.mul_neg, Int.neg_mul]
      omega
def rho (vs : List Nat) (x : Nat) : Option Nat := if x ∈ vs then some x else none
theorem rho_in {vs : List Nat} {x : Nat} (h : x ∈ vs) : rho vs x = some x := if_pos h
theorem rho_out {vs : List Nat} {x : Nat} (h : x ∉ vs) : rho vs x = none := if_neg h
theorem rho_iff {vs : List Nat} {x y : Nat} : rho vs x = rho vs y ↔ (x = y ∨ (x ∉ vs ∧ y ∉ vs)) := by
  by_cases hx : x ∈ vs <;> by_cases hy : y ∈ vs
  · simp [rho_in hx, rho_in hy, hx]
  · rw [rho_in hx, rho_out hy]
    refine Iff.intro (fun h => absurd h (by simp)) (fun h => ?_)
    rcases h with h | h
    · subst h; exact absurd hx hy
    · exact absurd hx h.1
  · rw [rho_out hx, rho_in hy]
    refine Iff.intro (fun h => absurd h (by simp)) (fun h => ?_)
    rcases h with h | h
    · subst h; exact absurd hy hx
    · exact absurd hy h.2
  · simp [rho_out hx, rho_out hy, hx, hy]
theorem L_symm : ∀ (es : List (Nat × Nat)) (u v : Nat), L es u v = L es v u
  | [], _, _ => rfl
  | w :: r, u, v => by simp only [L]; rw [L_symm r u v, Int.mul_comm]
/-- a table of noughts -/
theorem D_nil (vs : List Nat) : D (L []) vs = if vs.length + 1 = 1 then 1 else 0 := by
  cases vs with
  | nil => rfl
  | cons v vs =>
    show A (L [] v) _ (v :: vs) = _
    rw [A_zero_x (v :: vs) _ (L [] v) (fun c _ => rfl)]
    rw [if_neg (by simp)]
/-- how many trees there are is the table's number, whatever places are taken out of it as one -/
theorem MT : ∀ (es : List (Nat × Nat)) (f : Nat → Nat) (vs : List Nat), vs.Nodup → D (L (onto f es)) vs = (TT (vs.length + 1) es (fun x => rho vs (f x)) : Int)
  | [], f, vs, _ => by
    show D (L []) vs = _
    rw [D_nil]
    simp only [TT]
    split <;> rfl
  | w :: r, f, vs, nd => by
    have ih := fun g vs' nd' => MT r g vs' nd'
    have eL : ∀ u v, L (onto f (w :: r)) u v = (ind (f w.1) u - ind (f w.2) u) * (ind (f w.1) v - ind (f w.2) v) + L (onto f r) u v := fun _ _ => rfl
    have triv : ∀ w' ∈ r, True ∧ True := fun _ _ => ⟨trivial, trivial⟩
    simp only [TT]
    by_cases e : rho vs (f w.1) = rho vs (f w.2)
    · rw [if_pos e, Nat.add_zero, ← ih f vs nd]
      refine D_congr (fun u hu v hv => ?_)
      rw [eL]
      rcases rho_iff.mp e with q | ⟨q1, q2⟩
      · rw [q]; simp
      · have z1 : ind (f w.1) u = 0 := ind_not q1 hu
        have z2 : ind (f w.2) u = 0 := ind_not q2 hu
        rw [z1, z2]; simp
    · rw [if_neg e]
      have hne : f w.1 ≠ f w.2 := fun z => e (by rw [z])
      have one : ∀ a b : Nat, a ∈ vs → b ∉ vs → ((a = f w.1 ∧ b = f w.2) ∨ (a = f w.2 ∧ b = f w.1)) → D (L (onto f (w :: r))) vs = ((TT (vs.length + 1) r (fun x => rho vs (f x)) + TT (vs.length + 1 - 1) r (mg (fun x => rho vs (f x)) w.1 w.2) : Nat) : Int) := by
        intro a b ha hb hab
        have p : vs.Perm (a :: vs.erase a) := List.perm_cons_erase ha
        have nd' : (a :: vs.erase a).Nodup := p.nodup_iff.mp nd
        have na : a ∉ vs.erase a := (List.nodup_cons.mp nd').1
        have dd := D_diag (R := L (onto f r)) (S := L (onto f (w :: r))) na (fun u hu v hv => by
          have hu' : u ∈ vs := p.mem_iff.mpr hu
          have hv' : v ∈ vs := p.mem_iff.mpr hv
          rw [eL]
          have zb : ∀ z ∈ vs, ind b z = 0 := fun z hz => ind_not hb hz
          have sy : ∀ z, ind a z = ind z a := fun z => ind_symm a z
          rcases hab with ⟨q1, q2⟩ | ⟨q1, q2⟩
          · rw [← q1, ← q2, zb u hu', zb v hv', sy, sy]; simp only [Int.sub_zero]; omega
          · rw [← q1, ← q2, zb u hu', zb v hv', sy, sy]; simp only [Int.zero_sub, Int.neg_mul_neg]; omega)
        rw [← D_perm _ p, dd, D_perm _ p, ih f vs nd, ih f _ (List.nodup_cons.mp nd').2]
        have hl : (vs.erase a).length + 1 = vs.length + 1 - 1 := by
          have := p.length_eq
          simp at this
          omega
        rw [hl, Int.natCast_add]
        congr 2
        refine TT_ker (fun _ => True) r _ _ _ triv (fun x y _ _ => ?_)
        rw [mg_iff]
        have me : ∀ z, z ∈ vs.erase a ↔ (z ∈ vs ∧ z ≠ a) := fun z => by
          rw [p.mem_iff, List.mem_cons]
          constructor
          · intro h
            exact ⟨.inr h, fun q => na (q ▸ h)⟩
          · rintro ⟨h | h, h'⟩
            · exact absurd h h'
            · exact h
        rw [rho_iff, rho_iff]
        rw [me, me]
        have key : (f x = f y ∨ ¬(f x ∈ vs ∧ f x ≠ a) ∧ ¬(f y ∈ vs ∧ f y ≠ a)) ↔ ((f x = f y ∨ f x ∉ vs ∧ f y ∉ vs) ∨ (f x = a ∧ f y ∉ vs) ∨ (f x ∉ vs ∧ f y = a)) := by
          by_cases c3 : f x = a <;> by_cases c4 : f y = a
          · simp [c3, c4]
          · have c5 : ¬ a = f y := fun z => c4 z.symm
            by_cases c6 : f y ∈ vs <;> simp [c3, c4, c5, c6, ha]
          · by_cases c6 : f x ∈ vs <;> simp [c3, c4, c6, ha]
          · by_cases c5 : f x ∈ vs <;> by_cases c6 : f y ∈ vs <;> simp [c3, c4, c5, c6]
        have ra : ∀ z, rho vs z = rho vs a ↔ z = a := fun z => by
          rw [rho_iff]; exact ⟨fun h => h.elim id (fun h => absurd ha h.2), .inl⟩
        have rb : ∀ z, rho vs z = rho vs b ↔ z ∉ vs := fun z => by
          rw [rho_iff]
          constructor
          · rintro (h | h)
            · rw [h]; exact hb
            · exact h.1
          · intro h; exact .inr ⟨h, hb⟩
        rw [key]
        rcases hab with ⟨q1, q2⟩ | ⟨q1, q2⟩
        · rw [← q1, ← q2, ra, ra, rb, rb]
        · rw [← q1, ← q2, ra, ra, rb, rb]
          constructor
          · rintro (h | h | h)
            · exact .inl h
            · exact .inr (.inr h)
            · exact .inr (.inl h)
          · rintro (h | h | h)
            · exact .inl h
            · exact .inr (.inr h)
            · exact .inr (.inl h)
      by_cases h1 : f w.1 ∈ vs
      · by_cases h2 : f w.2 ∈ vs
        · generalize ea : f w.1 = a at *
          generalize eb : f w.2 = b at *
          have p1 : vs.Perm (a :: vs.erase a) := List.perm_cons_erase h1
          have hb' : b ∈ vs.erase a := by
            rcases List.mem_cons.mp (p1.mem_iff.mp h2) with q | q
            · exact absurd q.symm hne
            · exact q
          have p2 : (vs.erase a).Perm (b :: (vs.erase a).erase b) := List.perm_cons_erase hb'
          let vs' := (vs.erase a).erase b
          have p : vs.Perm (a :: b :: vs') := p1.trans (p2.cons a)
          have nd' : (a :: b :: vs').Nodup := p.nodup_iff.mp nd
          have na : a ∉ b :: vs' := (List.nodup_cons.mp nd').1
          have ndb : (b :: vs').Nodup := (List.nodup_cons.mp nd').2
          have nb : b ∉ vs' := (List.nodup_cons.mp ndb).1
          have na' : a ∉ vs' := fun q => na (List.mem_cons_of_mem _ q)
          let g : Nat → Nat := fun x => if x = a then b else x
          have eg : onto g (onto f r) = onto (fun x => g (f x)) r := by simp [onto, Function.comp_def]
          have ne_of : ∀ v ∈ vs', v ≠ a ∧ v ≠ b := fun v hv => ⟨fun q => na' (q ▸ hv), fun q => nb (q ▸ hv)⟩
          have mm := L_merge a b hne (onto f r)
          have bne : b ≠ a := Ne.symm hne
          have dd := D_two (R := L (onto f r)) (S := L (onto f (w :: r))) (Q := L (onto g (onto f r))) (a := a) (b := b) (vs := vs') hne na' nb
            (fun u _ v _ => by rw [eL, Int.add_comm])
            (fun v hv => by
              show L (onto (fun x => if x = a then b else x) (onto f r)) b v = _
              rw [mm b v bne (ne_of v hv).1, if_pos rfl, if_neg (ne_of v hv).2, if_pos rfl, if_neg (ne_of v hv).2]
              omega)
            (by
              show L (onto (fun x => if x = a then b else x) (onto f r)) b b = _
              rw [mm b b bne bne, if_pos rfl, if_pos rfl, if_pos rfl, if_pos rfl]
              omega)
            (fun u hu => ⟨by
              show L (onto (fun x => if x = a then b else x) (onto f r)) u b = _
              rw [mm u b (ne_of u hu).1 bne, if_neg (ne_of u hu).2, if_pos rfl, if_neg (ne_of u hu).2]
              omega, fun v hv => by
              show L (onto (fun x => if x = a then b else x) (onto f r)) u v = _
              rw [mm u v (ne_of u hu).1 (ne_of v hv).1, if_neg (ne_of u hu).2, if_neg (ne_of v hv).2, if_neg (ne_of u hu).2]
              omega⟩)
          rw [← D_perm _ p, dd, D_perm _ p, ih f vs nd, eg, ih (fun x => g (f x)) _ ndb]
          have hl : (b :: vs').length + 1 = vs.length + 1 - 1 := by
            have := p.length_eq
            simp at this
            simp
            omega
          rw [hl, Int.natCast_add]
          congr 2
          refine TT_ker (fun _ => True) r _ _ _ triv (fun x y _ _ => ?_)
          rw [mg_iff]
          have me : ∀ z, z ∈ b :: vs' ↔ (z ∈ vs ∧ z ≠ a) := fun z => by
            rw [p.mem_iff, List.mem_cons (a := z) (b := a)]
            constructor
            · intro h
              exact ⟨.inr h, fun q => na (q ▸ h)⟩
            · rintro ⟨h | h, h'⟩
              · exact absurd h h'
              · exact h
          rw [rho_iff, rho_iff, rho_iff, rho_iff, rho_iff, rho_iff]
          simp only [me, ea, eb]
          show _ ↔ (f x = f y ∨ f x ∉ vs ∧ f y ∉ vs) ∨ (f x = a ∨ f x ∉ vs ∧ a ∉ vs) ∧ (f y = b ∨ f y ∉ vs ∧ b ∉ vs) ∨ (f x = b ∨ f x ∉ vs ∧ b ∉ vs) ∧ (f y = a ∨ f y ∉ vs ∧ a ∉ vs)
          have ha : a ∈ vs := h1
          have hb : b ∈ vs := h2
          by_cases c3 : f x = a <;> by_cases c4 : f y = a
          · simp [g, c3, c4]
          · simp only [g, c3, c4, if_true, if_false]
            by_cases c5 : f y = b
            · simp [c5, hb]
            · by_cases c6 : f y ∈ vs <;> simp_all [eq_comm]
          · simp only [g, c3, c4, if_true, if_false]
            by_cases c5 : f x = b
            · simp [c5, hb]
            · by_cases c6 : f x ∈ vs <;> simp_all [eq_comm]
          · simp only [g, c3, c4, if_false]
            by_cases c5 : f x ∈ vs <;> by_cases c6 : f y ∈ vs <;> simp_all
        · exact one (f w.1) (f w.2) h1 h2 (.inl ⟨rfl, rfl⟩)
      · by_cases h2 : f w.2 ∈ vs
        · exact one (f w.2) (f w.1) h2 h1 (.inr ⟨rfl, rfl⟩)
        · exact absurd (rho_iff.mpr (.inr ⟨h1, h2⟩)) e
end ST
end
section
namespace ST
theorem sign_succ (p : Nat) : Sq57.sign (p + 1) = - Sq57.sign p := by
  unfold Sq57.sign
  rcases Nat.mod_two_eq_zero_or_one p with h | h
  · have : (p + 1) % 2 = 1 := by omega
    simp [h, this]
  · have : (p + 1) % 2 = 0 := by omega
    simp [h, this]
theorem erase_mid {α : Type} : ∀ (pre : List α) (c : α) (post : List α), (pre ++ c :: post).eraseIdx pre.length = pre ++ post
  | [], _, _ => rfl
  | p :: pre, c, post => by simp [erase_mid pre c post]
theorem num_sum (f : Nat) (rows : List (Nat → Int)) (x : Nat → Int)
    (ih : ∀ cols : List Nat, rows.length = cols.length → Sq57.number_ f (rows.map fun r => cols.map r) = F rows cols) :
    ∀ (post pre : List Nat), rows.length + 1 = pre.length + post.length →
    (((List.range' pre.length post.length).zip (post.map x)).map fun q => if q.2 = 0 then 0 else Sq57.sign q.1 * q.2 * Sq57.number_ f ((rows.map fun r => (pre ++ post).map r).map fun s => s.eraseIdx q.1)).sum
      = Sq57.sign pre.length * A x (fun l => F rows (pre ++ l)) post
  | [], pre, _ => by simp [A]
  | c :: post, pre, h => by
    have h2 := num_sum f rows x ih post (pre ++ [c]) (by simp at h ⊢; omega)
    have e0 : (pre ++ [c]) ++ post = pre ++ c :: post := by simp
    rw [e0] at h2
    have el : (pre ++ [c]).length = pre.length + 1 := by simp
    rw [el] at h2
    have er : List.range' pre.length (c :: post).length = pre.length :: List.range' (pre.length + 1) post.length := rfl
    rw [er, List.map_cons, List.zip_cons_cons, List.map_cons, List.sum_cons, h2, sign_succ]
    have hd : ((rows.map fun r => (pre ++ c :: post).map r).map fun s => s.eraseIdx pre.length) = rows.map fun r => (pre ++ post).map r := by
      rw [List.map_map]
      refine List.map_congr_left (fun r _ => ?_)
      show ((pre ++ c :: post).map r).eraseIdx pre.length = _
      rw [List.map_append, List.map_cons, List.map_append]
      have := erase_mid (pre.map r) (r c) (post.map r)
      rw [List.length_map] at this
      exact this
    simp only [hd, A]
    rw [ih (pre ++ post) (by simp at h ⊢; omega)]
    have ea : A x (fun l => F rows ((pre ++ [c]) ++ l)) post = A x (fun l => F rows (pre ++ c :: l)) post := A_congr_phi _ _ _ _ (fun l _ _ => by simp)
    rw [ea]
    by_cases hx : x c = 0
    · rw [if_pos hx, hx]
      simp only [Int.zero_mul, Int.zero_sub, Int.mul_neg, Int.neg_mul]
      omega
    · rw [if_neg hx, Int.mul_sub, Int.neg_mul, ← Int.mul_assoc]
      omega
theorem num_F : ∀ (f : Nat) (rows : List (Nat → Int)) (cols : List Nat), rows.length = cols.length → rows.length ≤ f → Sq57.number_ f (rows.map fun r => cols.map r) = F rows cols
  | 0, [], cols, h, _ => by
    cases cols with
    | nil => rfl
    | cons _ _ => simp at h
  | 0, _ :: _, _, _, h => by simp at h
  | f + 1, [], cols, h, _ => by
    cases cols with
    | nil => rfl
    | cons _ _ => simp at h
  | f + 1, r :: rs, cols, h, hf => by
    have q := num_sum f rs r (fun cols' h' => num_F f rs cols' h' (by simp at hf; omega)) cols [] (by simpa using h)
    simp only [List.nil_append, List.length_nil] at q
    show (((List.range (cols.map r).length).zip (cols.map r)).map fun x => if x.2 = 0 then 0 else Sq57.sign x.1 * x.2 * Sq57.number_ f ((rs.map fun r => cols.map r).map fun s => s.eraseIdx x.1)).sum = A r (F rs) cols
    rw [List.length_map, List.range_eq_range', q]
    have : Sq57.sign 0 = 1 := rfl
    rw [this, Int.one_mul]
theorem ind_b (a b : Nat) : ind a b = if (a == b) = true then 1 else 0 := by
  unfold ind
  by_cases h : a = b <;> simp [h]
theorem L_at (i : Nat) : ∀ l : List (Nat × Nat), L l i i = (Sq57.at_ l i : Int)
  | [] => rfl
  | w :: r => by
    have ih := L_at i r
    unfold Sq57.at_ at ih ⊢
    simp only [L, List.filter_cons]
    rw [ih, ind_b, ind_b]
    generalize (List.filter (fun w => (w.fst == i) != (w.snd == i)) r) = t
    cases (w.1 == i) <;> cases (w.2 == i) <;> simp <;> omega
theorem L_between {i j : Nat} (hij : i ≠ j) : ∀ l : List (Nat × Nat), L l i j = - (Sq57.between l i j : Int)
  | [] => rfl
  | w :: r => by
    have ih := L_between hij r
    unfold Sq57.between at ih ⊢
    simp only [L, List.filter_cons]
    rw [ih, ind_b, ind_b, ind_b, ind_b]
    have x1 : (w.1 == i) = true → (w.1 == j) = false := fun h => by
      have := beq_iff_eq.mp h
      exact beq_eq_false_iff_ne.mpr (by omega)
    have x2 : (w.2 == i) = true → (w.2 == j) = false := fun h => by
      have := beq_iff_eq.mp h
      exact beq_eq_false_iff_ne.mpr (by omega)
    generalize (List.filter (fun w => w.fst == i && w.snd == j || w.fst == j && w.snd == i) r) = t
    generalize (w.1 == i) = b1 at *
    generalize (w.1 == j) = b2 at *
    generalize (w.2 == i) = b3 at *
    generalize (w.2 == j) = b4 at *
    cases b1 <;> cases b2 <;> cases b3 <;> cases b4 <;> simp at x1 x2 ⊢ <;> omega
theorem table_L (n : Nat) (l : List (Nat × Nat)) : Sq57.table n l = ((List.range (n - 1)).map (L l)).map fun r => (List.range (n - 1)).map r := by
  unfold Sq57.table
  rw [List.map_map]
  refine List.map_congr_left (fun i _ => ?_)
  show _ = (List.range (n - 1)).map (L l i)
  refine List.map_congr_left (fun j _ => ?_)
  by_cases h : i = j
  · subst h; rw [if_pos rfl, L_at]
  · rw [if_neg h, L_between h]
theorem onto_id (l : List (Nat × Nat)) : onto (fun x => x) l = l := by simp [onto]
/-- the specification's number is how many trees there are, by classes -/
theorem count_TT {n : Nat} {l : List (Nat × Nat)} (hn : 1 ≤ n) (h : ∀ w ∈ l, w.1 < n ∧ w.2 < n) : Sq57.count n l = TT n l (fun x => x) := by
  unfold Sq57.count
  have e : Sq57.number_ n (Sq57.table n l) = D (L l) (List.range (n - 1)) := by
    rw [table_L, num_F _ _ _ (by simp) (by simp)]
    rfl
  have q := MT l (fun x => x) (List.range (n - 1)) List.nodup_range
  rw [onto_id] at q
  rw [e, q, List.length_range, Int.toNat_natCast, Nat.sub_add_cancel hn]
  refine TT_ker (fun x => x < n) l n _ _ h (fun x y hx hy => ?_)
  rw [rho_iff, List.mem_range, List.mem_range]
  constructor
  · rintro (h | h) <;> omega
  · exact .inl
end ST
end
section
namespace ST
/-! The sum of orders, by taken columns. -/
abbrev BK := List Bool
def look (kvs : List (BK × Int)) (k : BK) : Int := match kvs with
  | [] => 0
  | p :: r => if p.1 = k then p.2 else look r k
def put (kvs : List (BK × Int)) (k : BK) (v : Int) : List (BK × Int) := match kvs with
  | [] => [(k, v)]
  | p :: r => if p.1 = k then (p.1, v) :: r else p :: put r k v
def sg (n : Nat) : Int := 1 - 2 * ((n % 2 : Nat) : Int)
def ct (l : List Bool) : Nat := l.countP (fun b => b)
def cf (l : List Bool) : Nat := l.countP (fun b => !b)
def colStep (row : List Int) (used : BK) (value : Int) (found : List (BK × Int)) (c : Nat) : List (BK × Int) :=
  if used.getD c true = false ∧ row.getD c 0 ≠ 0 then
    put found (used.set c true) (look found (used.set c true) + sg (ct (used.drop (c + 1))) * value * row.getD c 0)
  else found
def entryStep (row : List Int) (found : List (BK × Int)) (uv : BK × Int) : List (BK × Int) := (List.range row.length).foldl (colStep row uv.1 uv.2) found
def rowMore (sums : List (BK × Int)) (row : List Int) : List (BK × Int) := sums.foldl (entryStep row) []
def sumOrders (rows : List (List Int)) : Int := look (rows.foldl rowMore [(List.replicate rows.length false, 1)]) (List.replicate rows.length true)

def W (w : BK → Int) : List (BK × Int) → Int
  | [] => 0
  | p :: r => p.2 * w p.1 + W w r
def keysOf (kvs : List (BK × Int)) : List BK := kvs.map (·.1)
theorem look_not {k : BK} : ∀ {kvs : List (BK × Int)}, k ∉ keysOf kvs → look kvs k = 0
  | [], _ => rfl
  | p :: r, h => by
    have h1 : ¬ p.1 = k := fun e => h (by rw [← e]; exact List.mem_cons_self)
    have h2 : k ∉ keysOf r := fun e => h (List.mem_cons_of_mem _ e)
    simp only [look]
    rw [if_neg h1, look_not h2]
theorem W_put (w : BK → Int) (k : BK) (d : Int) : ∀ kvs : List (BK × Int), W w (put kvs k (look kvs k + d)) = W w kvs + d * w k
  | [] => by simp [put, look, W]
  | p :: r => by
    simp only [put, look]
    by_cases h : p.1 = k
    · rw [if_pos h, if_pos h]
      simp only [W]
      rw [h, Int.add_mul]
      omega
    · rw [if_neg h, if_neg h]
      simp only [W]
      rw [W_put w k d r]
      omega
theorem keys_put (k : BK) (v : Int) : ∀ kvs : List (BK × Int), keysOf (put kvs k v) = if k ∈ keysOf kvs then keysOf kvs else keysOf kvs ++ [k]
  | [] => by simp [put, keysOf]
  | p :: r => by
    simp only [put]
    by_cases h : p.1 = k
    · rw [if_pos h, if_pos (by rw [← h]; exact List.mem_cons_self)]
      simp [keysOf]
    · rw [if_neg h]
      have ih := keys_put k v r
      have e : k ∈ keysOf (p :: r) ↔ k ∈ keysOf r := by
        simp only [keysOf, List.map_cons, List.mem_cons]
        exact ⟨fun z => z.elim (fun z => absurd z.symm h) id, .inr⟩
      show p.1 :: keysOf (put r k v) = _
      rw [ih]
      by_cases hk : k ∈ keysOf r
      · rw [if_pos hk, if_pos (e.mpr hk)]; rfl
      · rw [if_neg hk, if_neg (fun z => hk (e.mp z))]; rfl
/-- keys of one length, none twice -/
structure KeyOk (m : Nat) (kvs : List (BK × Int)) : Prop where
  nd : (keysOf kvs).Nodup
  len : ∀ k ∈ keysOf kvs, k.length = m
theorem KeyOk.put {m : Nat} {kvs : List (BK × Int)} (h : KeyOk m kvs) {k : BK} (hk : k.length = m) (v : Int) : KeyOk m (put kvs k v) := by
  constructor
  · rw [keys_put]
    by_cases c : k ∈ keysOf kvs
    · rw [if_pos c]; exact h.nd
    · rw [if_neg c]
      rw [List.nodup_append]
      exact ⟨h.nd, by simp, fun a ha b hb => by simp at hb; subst hb; exact fun e => c (e ▸ ha)⟩
  · intro j hj
    rw [keys_put] at hj
    by_cases c : k ∈ keysOf kvs
    · rw [if_pos c] at hj; exact h.len j hj
    · rw [if_neg c] at hj
      rcases List.mem_append.mp hj with q | q
      · exact h.len j q
      · simp at q; rw [q]; exact hk
theorem KeyOk.colStep {m : Nat} {found : List (BK × Int)} (h : KeyOk m found) {row : List Int} {used : BK} (hu : used.length = m) (value : Int) (c : Nat) : KeyOk m (colStep row used value found c) := by
  unfold ST.colStep
  split
  · exact h.put (by simpa using hu) _
  · exact h
theorem KeyOk.cols {m : Nat} {row : List Int} {used : BK} (hu : used.length = m) (value : Int) : ∀ (cs : List Nat) {found : List (BK × Int)}, KeyOk m found → KeyOk m (cs.foldl (ST.colStep row used value) found)
  | [], _, h => h
  | c :: cs, _, h => KeyOk.cols hu value cs (h.colStep hu value c)
theorem KeyOk.rowMore {m : Nat} {row : List Int} : ∀ (sums : List (BK × Int)) {found : List (BK × Int)}, (∀ k ∈ keysOf sums, k.length = m) → KeyOk m found → KeyOk m (sums.foldl (entryStep row) found)
  | [], _, _, h => h
  | p :: r, _, hs, h => KeyOk.rowMore r (fun k hk => hs k (List.mem_cons_of_mem _ hk)) (KeyOk.cols (hs p.1 List.mem_cons_self) p.2 _ h)
theorem KeyOk.nil {m : Nat} : KeyOk m [] := ⟨List.nodup_nil, fun _ h => nomatch h⟩
theorem KeyOk.row {m : Nat} {sums : List (BK × Int)} (h : KeyOk m sums) (row : List Int) : KeyOk m (ST.rowMore sums row) := KeyOk.rowMore sums h.len KeyOk.nil
theorem KeyOk.first (m : Nat) : KeyOk m [(List.replicate m false, 1)] := ⟨by simp [keysOf], fun k hk => by simp [keysOf] at hk; rw [hk]; simp⟩

/-! the columns not taken, their sign -/
def un : Nat → BK → List Nat
  | _, [] => []
  | o, true :: l => un (o + 1) l
  | o, false :: l => o :: un (o + 1) l
theorem un_append : ∀ (p u : BK) (o : Nat), un o (p ++ u) = un o p ++ un (o + p.length) u
  | [], u, o => rfl
  | true :: p, u, o => by
    show un (o + 1) (p ++ u) = un (o + 1) p ++ un (o + (p.length + 1)) u
    rw [un_append p u (o + 1)]
    congr 2
    omega
  | false :: p, u, o => by
    show o :: un (o + 1) (p ++ u) = o :: (un (o + 1) p ++ un (o + (p.length + 1)) u)
    rw [un_append p u (o + 1)]
    congr 3
    omega
theorem sg_succ (n : Nat) : sg (n + 1) = - sg n := by
  unfold sg
  have : n % 2 = 0 ∨ n % 2 = 1 := Nat.mod_two_eq_zero_or_one n
  rcases this with h | h <;> omega
theorem sg_sq : ∀ n : Nat, sg n * sg n = 1
  | 0 => rfl
  | n + 1 => by rw [sg_succ, Int.neg_mul_neg]; exact sg_sq n
theorem sg_add (m : Nat) : ∀ n : Nat, sg (m + n) = sg m * sg n
  | 0 => by show sg m = sg m * 1; omega
  | n + 1 => by
    show sg (m + n + 1) = _
    rw [sg_succ, sg_add m n, sg_succ, Int.mul_neg]
def gg : BK → Int
  | [] => 1
  | true :: l => gg l
  | false :: l => sg (ct l) * gg l
theorem ct_append (p u : BK) : ct (p ++ u) = ct p + ct u := List.countP_append
theorem cf_append (p u : BK) : cf (p ++ u) = cf p + cf u := List.countP_append
theorem ct_true (u : BK) : ct (true :: u) = ct u + 1 := by simp [ct]
theorem ct_false (u : BK) : ct (false :: u) = ct u := by simp [ct]
theorem cf_true (u : BK) : cf (true :: u) = cf u := by simp [cf]
theorem cf_false (u : BK) : cf (false :: u) = cf u + 1 := by simp [cf]
theorem gg_set : ∀ (p u : BK), sg (ct u) * gg (p ++ true :: u) = gg (p ++ false :: u) * sg (cf p)
  | [], u => by
    show sg (ct u) * gg u = (sg (ct u) * gg u) * 1
    omega
  | true :: p, u => by
    show sg (ct u) * gg (p ++ true :: u) = gg (p ++ false :: u) * sg (cf (true :: p))
    rw [cf_true]
    exact gg_set p u
  | false :: p, u => by
    have ih := gg_set p u
    show sg (ct u) * (sg (ct (p ++ true :: u)) * gg (p ++ true :: u)) = (sg (ct (p ++ false :: u)) * gg (p ++ false :: u)) * sg (cf (false :: p))
    rw [ct_append, ct_append, ct_true, ct_false, cf_false, sg_succ, ← Nat.add_assoc, sg_succ]
    calc sg (ct u) * (-sg (ct p + ct u) * gg (p ++ true :: u)) = - (sg (ct p + ct u) * (sg (ct u) * gg (p ++ true :: u))) := by
          rw [Int.neg_mul, Int.mul_neg]; congr 1; ac_rfl
      _ = - (sg (ct p + ct u) * (gg (p ++ false :: u) * sg (cf p))) := by rw [ih]
      _ = _ := by rw [Int.mul_neg, Int.mul_assoc]
/-- the columns' sum -/
def colsum (x : Nat → Int) (w : BK → Int) : BK → BK → Int
  | _, [] => 0
  | p, true :: u => colsum x w (p ++ [true]) u
  | p, false :: u => sg (ct u) * x p.length * w (p ++ true :: u) + colsum x w (p ++ [false]) u
theorem colsum_A (x : Nat → Int) (Phi : List Nat → Int) : ∀ (u p : BK), colsum x (fun k => gg k * Phi (un 0 k)) p u = gg (p ++ u) * sg (cf p) * A x (fun l => Phi (un 0 p ++ l)) (un p.length u)
  | [], p => by simp [colsum, un, A]
  | true :: u, p => by
    have ih := colsum_A x Phi u (p ++ [true])
    simp only [colsum]
    rw [ih]
    have e1 : p ++ [true] ++ u = p ++ true :: u := by simp
    have e2 : un 0 (p ++ [true]) = un 0 p := by rw [un_append]; simp [un]
    have e3 : cf (p ++ [true]) = cf p := by rw [cf_append]; rfl
    have e4 : un (p ++ [true]).length u = un p.length (true :: u) := by simp [un]
    rw [e1, e2, e3, e4]
  | false :: u, p => by
    have ih := colsum_A x Phi u (p ++ [false])
    simp only [colsum]
    rw [ih]
    have e1 : p ++ [false] ++ u = p ++ false :: u := by simp
    have e2 : un 0 (p ++ [false]) = un 0 p ++ [p.length] := by rw [un_append]; simp [un]
    have e3 : cf (p ++ [false]) = cf p + 1 := by rw [cf_append]; rfl
    have e4 : un p.length (false :: u) = p.length :: un (p ++ [false]).length u := by simp [un]
    have e5 : un 0 (p ++ true :: u) = un 0 p ++ un (p ++ [false]).length u := by rw [un_append]; simp [un]
    rw [e1, e2, e3, e4, e5, sg_succ]
    simp only [A, List.append_assoc, List.singleton_append]
    have g := gg_set p u
    rw [Int.mul_sub, Int.mul_neg, Int.neg_mul]
    have : sg (ct u) * x p.length * (gg (p ++ true :: u) * Phi (un 0 p ++ un (p ++ [false]).length u)) = gg (p ++ false :: u) * sg (cf p) * (x p.length * Phi (un 0 p ++ un (p ++ [false]).length u)) := by
      rw [← g]; ac_rfl
    rw [this]
    omega
/-- the loop over the columns adds the columns' sum -/
theorem cols_sum (row : List Int) (w : BK → Int) (value : Int) : ∀ (u p : BK) (found : List (BK × Int)),
    W w ((List.range' p.length u.length).foldl (colStep row (p ++ u) value) found) = W w found + value * colsum (fun c => row.getD c 0) w p u
  | [], p, found => by simp [colsum]
  | b :: u, p, found => by
    have er : List.range' p.length (b :: u).length = p.length :: List.range' (p ++ [b]).length u.length := by simp [List.range'_succ]
    have e1 : p ++ b :: u = (p ++ [b]) ++ u := by simp
    rw [er, List.foldl_cons]
    have ih := cols_sum row w value u (p ++ [b]) (colStep row (p ++ b :: u) value found p.length)
    rw [← e1] at ih
    rw [ih]
    have g : (p ++ b :: u).getD p.length true = b := by simp [List.getD_eq_getElem?_getD]
    cases b with
    | true =>
      have : colStep row (p ++ true :: u) value found p.length = found := by
        unfold colStep
        rw [if_neg (by rw [g]; simp)]
      rw [this]
      rfl
    | false =>
      simp only [colsum]
      have hs : (p ++ false :: u).set p.length true = p ++ true :: u := by simp
      have hd : (p ++ false :: u).drop (p.length + 1) = u := by simp [List.drop_append]
      by_cases z : row.getD p.length 0 = 0
      · have : colStep row (p ++ false :: u) value found p.length = found := by
          unfold colStep
          rw [if_neg (by rw [z]; simp)]
        rw [this, z]
        simp
      · have : colStep row (p ++ false :: u) value found p.length = put found (p ++ true :: u) (look found (p ++ true :: u) + sg (ct u) * value * row.getD p.length 0) := by
          unfold colStep
          rw [if_pos ⟨g, z⟩, hs, hd]
        rw [this, W_put]
        rw [Int.mul_add]
        have : sg (ct u) * value * row.getD p.length 0 * w (p ++ true :: u) = value * (sg (ct u) * row.getD p.length 0 * w (p ++ true :: u)) := by ac_rfl
        rw [this]
        omega
theorem entry_sum (row : List Int) (Phi : List Nat → Int) (uv : BK × Int) (h : uv.1.length = row.length) (found : List (BK × Int)) :
    W (fun k => gg k * Phi (un 0 k)) (entryStep row found uv) = W (fun k => gg k * Phi (un 0 k)) found + uv.2 * (gg uv.1 * A (fun c => row.getD c 0) Phi (un 0 uv.1)) := by
  unfold entryStep
  have q := cols_sum row (fun k => gg k * Phi (un 0 k)) uv.2 uv.1 [] found
  simp only [List.nil_append, List.length_nil] at q
  rw [List.range_eq_range', ← h, q, colsum_A]
  have e1 : cf [] = 0 := rfl
  have e2 : sg 0 = 1 := rfl
  simp only [List.nil_append, e1, e2, Int.mul_one, List.length_nil]
  rfl
theorem row_sum (row : List Int) (Phi : List Nat → Int) : ∀ (sums found : List (BK × Int)), (∀ k ∈ keysOf sums, k.length = row.length) →
    W (fun k => gg k * Phi (un 0 k)) (sums.foldl (entryStep row) found) = W (fun k => gg k * Phi (un 0 k)) found + W (fun k => gg k * A (fun c => row.getD c 0) Phi (un 0 k)) sums
  | [], found, _ => by simp [W]
  | p :: r, found, h => by
    rw [List.foldl_cons, row_sum row Phi r _ (fun k hk => h k (List.mem_cons_of_mem _ hk)), entry_sum row Phi p (h p.1 List.mem_cons_self)]
    simp only [W]
    omega
def rowsF (rows : List (List Int)) : List (Nat → Int) := rows.map fun r c => r.getD c 0
theorem rows_sum (m : Nat) : ∀ (rows : List (List Int)) (sums : List (BK × Int)), KeyOk m sums → (∀ r ∈ rows, r.length = m) →
    W (fun k => gg k * F (rowsF rows) (un 0 k)) sums = W (fun k => gg k * base (un 0 k)) (rows.foldl rowMore sums) ∧ KeyOk m (rows.foldl rowMore sums)
  | [], sums, h, _ => ⟨rfl, h⟩
  | r :: rs, sums, h, hr => by
    have hl := hr r List.mem_cons_self
    have ih := rows_sum m rs (rowMore sums r) (h.row r) (fun q hq => hr q (List.mem_cons_of_mem _ hq))
    refine ⟨?_, ih.2⟩
    rw [List.foldl_cons, ← ih.1]
    have q := row_sum r (F (rowsF rs)) sums [] (fun k hk => by rw [h.len k hk, hl])
    unfold rowMore
    rw [q]
    simp only [W, Int.zero_add]
    rfl
theorem un_nil_iff : ∀ (k : BK) (o : Nat), un o k = [] ↔ k = List.replicate k.length true
  | [], _ => by simp [un]
  | true :: k, o => by simp [un, un_nil_iff k, List.replicate_succ]
  | false :: k, o => by simp [un, List.replicate_succ]
theorem gg_true : ∀ m : Nat, gg (List.replicate m true) = 1
  | 0 => rfl
  | m + 1 => gg_true m
theorem W_zero {w : BK → Int} : ∀ {kvs : List (BK × Int)}, (∀ k ∈ keysOf kvs, w k = 0) → W w kvs = 0
  | [], _ => rfl
  | p :: r, h => by
    simp only [W]
    rw [h p.1 List.mem_cons_self, W_zero (kvs := r) (fun k hk => h k (List.mem_cons_of_mem _ hk))]
    simp
theorem W_end (m : Nat) : ∀ kvs : List (BK × Int), KeyOk m kvs → W (fun k => gg k * base (un 0 k)) kvs = look kvs (List.replicate m true)
  | [], _ => rfl
  | p :: r, h => by
    have nd := h.nd
    have hn : p.1 ∉ keysOf r ∧ (keysOf r).Nodup := List.nodup_cons.mp nd
    have hr : KeyOk m r := ⟨hn.2, fun k hk => h.len k (List.mem_cons_of_mem _ hk)⟩
    have hl := h.len p.1 List.mem_cons_self
    simp only [W, look]
    by_cases e : p.1 = List.replicate m true
    · rw [if_pos e]
      have z : W (fun k => gg k * base (un 0 k)) r = 0 := by
        refine W_zero (fun k hk => ?_)
        have hk2 : un 0 k ≠ [] := fun q => by
          have := (un_nil_iff k 0).mp q
          rw [hr.len k hk, ← e] at this
          exact hn.1 (this ▸ hk)
        cases q : un 0 k with
        | nil => exact absurd q hk2
        | cons _ _ => simp [base]
      rw [z, e, gg_true, (un_nil_iff _ 0).mpr (by simp)]
      show p.2 * (1 * 1) + 0 = p.2
      omega
    · rw [if_neg e, W_end m r hr]
      have hk2 : un 0 p.1 ≠ [] := fun q => by
        have := (un_nil_iff p.1 0).mp q
        rw [hl] at this
        exact e this
      cases q : un 0 p.1 with
      | nil => exact absurd q hk2
      | cons _ _ => simp [base]
theorem gg_false : ∀ m : Nat, gg (List.replicate m false) = 1
  | 0 => rfl
  | m + 1 => by
    show sg (ct (List.replicate m false)) * gg (List.replicate m false) = 1
    rw [gg_false m]
    have : ct (List.replicate m false) = 0 := by simp [ct]
    rw [this]; rfl
theorem un_false : ∀ m o : Nat, un o (List.replicate m false) = List.range' o m
  | 0, _ => rfl
  | m + 1, o => by
    show o :: un (o + 1) (List.replicate m false) = o :: List.range' (o + 1) m
    rw [un_false m]
theorem sumOrders_F (rows : List (List Int)) (h : ∀ r ∈ rows, r.length = rows.length) : sumOrders rows = F (rowsF rows) (List.range rows.length) := by
  have q := rows_sum rows.length rows [(List.replicate rows.length false, 1)] (KeyOk.first _) h
  unfold sumOrders
  rw [← W_end _ _ q.2, ← q.1]
  simp only [W]
  rw [gg_false, un_false, List.range_eq_range']
  omega
end ST
end
section
namespace ST
/-! Groups: a place's class. -/
abbrev Way := Nat × Nat
def cls (g : List Nat) (x : Nat) : Nat := g.getD x 0
def mergeTo (lo hi x : Nat) : Nat := if x = hi then lo else x - (if hi < x then 1 else 0)
def merged (g : List Nat) (a b : Nat) : List Nat := g.map (mergeTo (min (cls g a) (cls g b)) (max (cls g a) (cls g b)))
def mergedBy : List Nat → List Way → Option (List Nat)
  | g, [] => some g
  | g, w :: r => if cls g w.1 = cls g w.2 then none else mergedBy (merged g w.1 w.2) r
/-- n places in k groups, none empty -/
structure GOk (n k : Nat) (g : List Nat) : Prop where
  len : g.length = n
  lt : ∀ x ∈ g, x < k
  all : ∀ c, c < k → c ∈ g
abbrev Ins (n : Nat) (ws : List Way) : Prop := ∀ w ∈ ws, w.1 < n ∧ w.2 < n
theorem GOk.range (n : Nat) : GOk n n (List.range n) := ⟨by simp, fun x h => by simpa using h, fun c h => by simpa using h⟩
theorem cls_range {n x : Nat} (h : x < n) : cls (List.range n) x = x := by simp [cls, List.getD_eq_getElem?_getD, h]
theorem cls_get {g : List Nat} {x : Nat} (h : x < g.length) : cls g x = g[x] := by simp [cls, List.getD_eq_getElem?_getD, h]
theorem cls_get? {g : List Nat} {x : Nat} (h : x < g.length) : g[x]? = some (cls g x) := by rw [cls_get h]; exact List.getElem?_eq_getElem h
theorem cls_mem {g : List Nat} {x : Nat} (h : x < g.length) : cls g x ∈ g := by rw [cls_get h]; exact List.getElem_mem h
theorem GOk.cls_lt {n k x : Nat} {g : List Nat} (h : GOk n k g) (hx : x < n) : cls g x < k := h.lt _ (cls_mem (by rw [h.len]; exact hx))
theorem cls_map {g : List Nat} {f : Nat → Nat} {x : Nat} (h : x < g.length) : cls (g.map f) x = f (cls g x) := by
  rw [cls_get h, cls_get (by simpa using h), List.getElem_map]
theorem mergeTo_iff {lo hi x y : Nat} (h : lo < hi) : mergeTo lo hi x = mergeTo lo hi y ↔ (x = y ∨ (x = lo ∧ y = hi) ∨ (x = hi ∧ y = lo)) := by
  unfold mergeTo
  by_cases h1 : x = hi <;> by_cases h2 : y = hi <;> by_cases h3 : hi < x <;> by_cases h4 : hi < y <;> simp [h1, h2, h3, h4] <;> omega
theorem mergeTo_lt {lo hi x k : Nat} (h : lo < hi) (hk : hi < k) (hx : x < k) : mergeTo lo hi x < k - 1 := by
  unfold mergeTo
  split
  · omega
  · split <;> omega
theorem merged_cls {n k a b x : Nat} {g : List Nat} (h : GOk n k g) (hx : x < n) : cls (merged g a b) x = mergeTo (min (cls g a) (cls g b)) (max (cls g a) (cls g b)) (cls g x) := by
  unfold merged
  rw [cls_map (by rw [h.len]; exact hx)]
theorem merged_ker {n k a b x y : Nat} {g : List Nat} (h : GOk n k g) (hne : cls g a ≠ cls g b) (hx : x < n) (hy : y < n) :
    cls (merged g a b) x = cls (merged g a b) y ↔ mg (cls g) a b x = mg (cls g) a b y := by
  rw [merged_cls h hx, merged_cls h hy, mergeTo_iff (by omega), mg_iff]
  omega
theorem GOk.merged {n k a b : Nat} {g : List Nat} (h : GOk n k g) (ha : a < n) (hb : b < n) (hne : cls g a ≠ cls g b) : GOk n (k - 1) (merged g a b) := by
  have la := h.cls_lt ha
  have lb := h.cls_lt hb
  refine ⟨by simp [ST.merged, h.len], fun x hx => ?_, fun c hc => ?_⟩
  · obtain ⟨y, hy, rfl⟩ := List.mem_map.mp hx
    exact mergeTo_lt (by omega) (by omega) (h.lt y hy)
  · refine List.mem_map.mpr ?_
    by_cases q : c < max (cls g a) (cls g b)
    · refine ⟨c, h.all c (by omega), ?_⟩
      unfold mergeTo
      rw [if_neg (by omega), if_neg (by omega)]
      omega
    · refine ⟨c + 1, h.all (c + 1) (by omega), ?_⟩
      unfold mergeTo
      rw [if_neg (by omega), if_pos (by omega)]
      omega
theorem GOk.two {n k a b : Nat} {g : List Nat} (h : GOk n k g) (ha : a < n) (hb : b < n) (hne : cls g a ≠ cls g b) : 2 ≤ k := by
  have := h.cls_lt ha
  have := h.cls_lt hb
  omega
theorem mergedBy_ok {n : Nat} : ∀ {ws : List Way} {k : Nat} {g g' : List Nat}, GOk n k g → Ins n ws → mergedBy g ws = some g' → GOk n (k - ws.length) g' ∧ (1 ≤ k → ws.length < k)
  | [], k, g, g', h, _, e => by
    cases e
    exact ⟨h, fun hk => by simp; omega⟩
  | w :: r, k, g, g', h, hw, e => by
    simp only [mergedBy] at e
    have iw := hw w List.mem_cons_self
    by_cases c : cls g w.1 = cls g w.2
    · rw [if_pos c] at e; cases e
    · rw [if_neg c] at e
      have h2 := h.two iw.1 iw.2 c
      have q := mergedBy_ok (h.merged iw.1 iw.2 c) (fun v hv => hw v (List.mem_cons_of_mem _ hv)) e
      rw [List.length_cons]
      refine ⟨?_, fun _ => ?_⟩
      · have : k - (r.length + 1) = k - 1 - r.length := by omega
        rw [this]; exact q.1
      · have := q.2 (by omega)
        omega
theorem mergedBy_append : ∀ (ws vs : List Way) (g : List Nat), mergedBy g (ws ++ vs) = (mergedBy g ws).bind fun g' => mergedBy g' vs
  | [], _, _ => rfl
  | w :: r, vs, g => by
    simp only [List.cons_append, mergedBy]
    by_cases c : cls g w.1 = cls g w.2
    · rw [if_pos c, if_pos c]; rfl
    · rw [if_neg c, if_neg c]; exact mergedBy_append r vs _
/-- the rows of all groups but the last -/
def rowsOf (m : Nat) (g : List Nat) (ws : List Way) : List (List Int) := (List.range m).map fun i => (List.range m).map fun j => L (onto (cls g) ws) i j
theorem treeCount {n m : Nat} {g : List Nat} {ws : List Way} (h : GOk n (m + 1) g) (hw : Ins n ws) : sumOrders (rowsOf m g ws) = (TT (m + 1) ws (cls g) : Int) := by
  have hl : (rowsOf m g ws).length = m := by simp [rowsOf]
  rw [sumOrders_F _ (fun r hr => by
    obtain ⟨i, _, rfl⟩ := List.mem_map.mp hr
    simp [rowsOf])]
  have e : F (rowsF (rowsOf m g ws)) (List.range m) = D (L (onto (cls g) ws)) (List.range m) := by
    unfold D
    refine F_congr _ _ _ (by simp [rowsF, rowsOf]) (fun i c r r' q q' hc => ?_)
    have hc' : c < m := by simpa using hc
    by_cases hi : i < m
    · simp [rowsF, rowsOf, hi] at q
      simp [hi] at q'
      subst q q'
      simp [hc']
    · simp [hi] at q'
  rw [hl, e, MT ws (cls g) (List.range m) List.nodup_range, List.length_range]
  congr 1
  refine TT_ker (fun x => x < n) ws _ _ _ hw (fun x y hx hy => ?_)
  rw [rho_iff, List.mem_range, List.mem_range]
  have h1 := h.cls_lt hx
  have h2 := h.cls_lt hy
  constructor
  · rintro (q | q) <;> omega
  · exact .inl
/-- a way more -/
theorem TT_way {n k : Nat} {g : List Nat} (h : GOk n k g) {w : Way} {r : List Way} (hw : Ins n (w :: r)) :
    TT k (w :: r) (cls g) = TT k r (cls g) + if cls g w.1 = cls g w.2 then 0 else TT (k - 1) r (cls (merged g w.1 w.2)) := by
  simp only [TT]
  have iw := hw w List.mem_cons_self
  by_cases c : cls g w.1 = cls g w.2
  · rw [if_pos c, if_pos c]
  · rw [if_neg c, if_neg c]
    congr 1
    exact TT_ker (fun x => x < n) r _ _ _ (fun v hv => hw v (List.mem_cons_of_mem _ hv)) (fun x y hx hy => (merged_ker h c hx hy).symm)
/-- how many trees have all ways of some numbers, and else only ways from a number on -/
def someWays (ws : List Way) (nums : List Nat) : List Way := nums.map fun i => ws.getD i (0, 0)
def manyWith (n : Nat) (ws : List Way) (nums : List Nat) (b : Nat) : Nat := match mergedBy (List.range n) (someWays ws nums) with
  | none => 0
  | some g => TT (n - nums.length) (ws.drop b) (cls g)
theorem Ins.some {n : Nat} {ws : List Way} (h : Ins n ws) {nums : List Nat} (hn : ∀ i ∈ nums, i < ws.length) : Ins n (someWays ws nums) := fun w hw => by
  obtain ⟨i, hi, rfl⟩ := List.mem_map.mp hw
  have := hn i hi
  rw [List.getD_eq_getElem?_getD, List.getElem?_eq_getElem this]
  exact h _ (List.getElem_mem this)
theorem manyWith_step {n i : Nat} {ws : List Way} {nums : List Nat} {g : List Nat} (e : mergedBy (List.range n) (someWays ws nums) = some g) {w : Way} (hi : ws[i]? = some w) :
    manyWith n ws (nums ++ [i]) (i + 1) = if cls g w.1 = cls g w.2 then 0 else TT (n - nums.length - 1) (ws.drop (i + 1)) (cls (merged g w.1 w.2)) := by
  unfold manyWith
  have e2 : someWays ws (nums ++ [i]) = someWays ws nums ++ [w] := by
    simp only [someWays, List.map_append, List.map_cons, List.map_nil]
    rw [List.getD_eq_getElem?_getD, hi]; rfl
  rw [e2, mergedBy_append, e]
  simp only [Option.bind_some, mergedBy]
  by_cases c : cls g w.1 = cls g w.2
  · rw [if_pos c, if_pos c]
  · rw [if_neg c, if_neg c, List.length_append, List.length_singleton]
    congr 1
theorem manyWith_all {n : Nat} {ws : List Way} (h : Ins n ws) : manyWith n ws [] 0 = TT n ws (fun x => x) := by
  show TT n ws (cls (List.range n)) = _
  exact TT_ker (fun x => x < n) ws n _ _ h (fun x y hx hy => by rw [cls_range hx, cls_range hy])
theorem L_append (es fs : List Way) (a b : Nat) : L (es ++ fs) a b = L es a b + L fs a b := by
  induction es with
  | nil => simp [L]
  | cons w r ih => simp only [List.cons_append, L]; rw [ih]; omega
theorem L_bound (a b : Nat) : ∀ es : List Way, - (es.length : Int) ≤ L es a b ∧ L es a b ≤ es.length
  | [] => by simp [L]
  | w :: r => by
    have ih := L_bound a b r
    simp only [L, List.length_cons]
    have h : ∀ x y z u : Nat, -1 ≤ (ind x y - ind z y) * (ind x u - ind z u) ∧ (ind x y - ind z y) * (ind x u - ind z u) ≤ 1 := by
      intro x y z u
      unfold ind
      by_cases h1 : x = y <;> by_cases h2 : z = y <;> by_cases h3 : x = u <;> by_cases h4 : z = u <;> simp [h1, h2, h3, h4] <;> (repeat' split) <;> omega
    have := h w.1 a w.2 b
    omega
/-! The trees by their numbers. -/
def treeGo (n : Nat) (ws : List Way) : List Nat → List Nat → Nat → List Nat
  | [], found, _ => found
  | i :: is, found, left => if left < manyWith n ws (found ++ [i]) (i + 1) then treeGo n ws is (found ++ [i]) left else treeGo n ws is found (left - manyWith n ws (found ++ [i]) (i + 1))
def treeOf (n : Nat) (ws : List Way) (k : Nat) : List Nat := treeGo n ws (List.range ws.length) [] k
def numGo (n : Nat) (ws : List Way) (t : List Nat) : List Nat → List Nat → Nat → Nat
  | [], _, found => found
  | i :: is, ahead, found => if i ∈ t then numGo n ws t is (ahead ++ [i]) found else numGo n ws t is ahead (found + manyWith n ws (ahead ++ [i]) (i + 1))
def numberOf (n : Nat) (ws : List Way) (t : List Nat) : Nat := numGo n ws t (List.range ws.length) [] 0

/-! The specification's joining. -/
def lastTo (n a b x : Nat) : Nat :=
  if max a b = n - 1 then (if x = max a b then min a b else x) else (if x = max a b then min a b else if x = n - 1 then max a b else x)
theorem joined_onto (n : Nat) (l : List Way) (a b : Nat) : Sq57.joined n l a b = onto (lastTo n a b) l := rfl
theorem lastTo_lt {n a b x : Nat} (ha : a < n) (hb : b < n) (hab : a ≠ b) (hx : x < n) : lastTo n a b x < n - 1 := by
  unfold lastTo
  repeat' split
  all_goals omega
theorem lastTo_iff {n a b x y : Nat} (ha : a < n) (hb : b < n) (hab : a ≠ b) (hx : x < n) (hy : y < n) : lastTo n a b x = lastTo n a b y ↔ (x = y ∨ (x = a ∧ y = b) ∨ (x = b ∧ y = a)) := by
  have key : ∀ lo hi : Nat, lo < hi → hi < n → ((if hi = n - 1 then (if x = hi then lo else x) else (if x = hi then lo else if x = n - 1 then hi else x)) = (if hi = n - 1 then (if y = hi then lo else y) else (if y = hi then lo else if y = n - 1 then hi else y)) ↔ (x = y ∨ (x = lo ∧ y = hi) ∨ (x = hi ∧ y = lo))) := by
    intro lo hi h1 h2
    repeat' split
    all_goals omega
  unfold lastTo
  rw [key (min a b) (max a b) (by omega) (by omega)]
  omega
/-- the specification's labels t of n places in k groups -/
structure Lab (n k : Nat) (g : List Nat) (t : Nat → Nat) : Prop where
  lt : ∀ x, x < n → t x < k
  ker : ∀ x y, x < n → y < n → (t x = t y ↔ cls g x = cls g y)
theorem Lab.first (n : Nat) : Lab n n (List.range n) (fun x => x) := ⟨fun _ h => h, fun x y hx hy => by rw [cls_range hx, cls_range hy]⟩
theorem Lab.next {n k a b : Nat} {g : List Nat} {t : Nat → Nat} (h : Lab n k g t) (G : GOk n k g) (ha : a < n) (hb : b < n) (hne : cls g a ≠ cls g b) :
    Lab n (k - 1) (merged g a b) (fun x => lastTo k (t a) (t b) (t x)) := by
  have hne' : t a ≠ t b := fun e => hne ((h.ker a b ha hb).mp e)
  refine ⟨fun x hx => lastTo_lt (h.lt a ha) (h.lt b hb) hne' (h.lt x hx), fun x y hx hy => ?_⟩
  rw [lastTo_iff (h.lt a ha) (h.lt b hb) hne' (h.lt x hx) (h.lt y hy), merged_ker G hne hx hy, mg_iff, h.ker x y hx hy, h.ker x a hx ha, h.ker y b hy hb, h.ker x b hx hb, h.ker y a hy ha]
theorem onto_onto (f g : Nat → Nat) (l : List Way) : onto f (onto g l) = onto (fun x => f (g x)) l := by simp [onto, Function.comp_def]
theorem zip_onto (f : Nat → Nat) : ∀ (is : List Nat) (l : List Way), ((is.zip l).zip (onto f l)).map (fun x => (x.1.1, x.2)) = is.zip (onto f l)
  | [], _ => rfl
  | _ :: _, [] => rfl
  | i :: is, w :: l => by
    have ih := zip_onto f is l
    simp only [onto, List.map_cons, List.zip_cons_cons] at ih ⊢
    rw [ih]
theorem zip_ends : ∀ (is : List Nat) (l : List Way), is.length = l.length → (is.zip l).map (fun x => x.2) = l
  | [], [], _ => rfl
  | [], _ :: _, h => by simp at h
  | _ :: _, [], h => by simp at h
  | i :: is, w :: l, h => by
    simp only [List.zip_cons_cons, List.map_cons]
    rw [zip_ends is l (by simpa using h)]
theorem Ins.onto {n k : Nat} {ws : List Way} {t : Nat → Nat} (h : Ins n ws) (ht : ∀ x, x < n → t x < k) : Ins k (onto t ws) := fun w hw => by
  obtain ⟨v, hv, rfl⟩ := List.mem_map.mp hw
  exact ⟨ht _ (h v hv).1, ht _ (h v hv).2⟩
theorem TT_onto {β : Type} [DecidableEq β] (f : Nat → Nat) : ∀ (r : List Way) (k : Nat) (s : Nat → β), TT k (onto f r) s = TT k r (fun x => s (f x))
  | [], _, _ => rfl
  | w :: r, k, s => by
    show TT k (onto f r) s + (if s (f w.1) = s (f w.2) then 0 else TT (k - 1) (onto f r) (mg s (f w.1) (f w.2))) = TT k r (fun x => s (f x)) + (if s (f w.1) = s (f w.2) then 0 else TT (k - 1) r (mg (fun x => s (f x)) w.1 w.2))
    rw [TT_onto f r k s, TT_onto f r (k - 1)]
    rfl
theorem spec_c {n k : Nat} {g : List Nat} {t : Nat → Nat} (G : GOk n k g) (T : Lab n k g t) {w : Way} {r : List Way} (hw : Ins n (w :: r)) :
    (if t w.1 = t w.2 then 0 else Sq57.count (k - 1) (Sq57.joined k (onto t r) (t w.1) (t w.2))) = if cls g w.1 = cls g w.2 then 0 else TT (k - 1) r (cls (merged g w.1 w.2)) := by
  have iw := hw w List.mem_cons_self
  have hr : Ins n r := fun v hv => hw v (List.mem_cons_of_mem _ hv)
  by_cases c : cls g w.1 = cls g w.2
  · rw [if_pos c, if_pos ((T.ker _ _ iw.1 iw.2).mpr c)]
  · rw [if_neg c, if_neg (fun e => c ((T.ker _ _ iw.1 iw.2).mp e))]
    have T2 := T.next G iw.1 iw.2 c
    have h2 := G.two iw.1 iw.2 c
    rw [joined_onto, onto_onto, count_TT (by omega) (hr.onto T2.lt), TT_onto]
    exact TT_ker (fun x => x < n) r _ _ _ hr T2.ker
/-- the tree of a number, by both -/
theorem make_go {n : Nat} {ws : List Way} (hn : 1 ≤ n) (hws : Ins n ws) : ∀ (r : List Way) (i f : Nat) (nums : List Nat) (g : List Nat) (t : Nat → Nat) (kk : Nat),
    ws.drop i = r → r.length < f → (∀ j ∈ nums, j < ws.length) → mergedBy (List.range n) (someWays ws nums) = some g → nums.length < n → GOk n (n - nums.length) g → Lab n (n - nums.length) g t →
    (kk < TT (n - nums.length) r (cls g) → ∃ tr, Sq57.make f (n - nums.length) ((List.range' i r.length).zip (onto t r)) kk = some tr ∧ treeGo n ws (List.range' i r.length) nums kk = nums ++ tr) ∧
    (¬ kk < TT (n - nums.length) r (cls g) → Sq57.make f (n - nums.length) ((List.range' i r.length).zip (onto t r)) kk = none)
  | [], i, f, nums, g, t, kk, _, hf, _, _, hlt, _, _ => by
    cases f with
    | zero => simp at hf
    | succ f =>
      simp only [TT, List.length_nil, List.range'_zero, List.zip_nil_left, Sq57.make, treeGo]
      by_cases c : n - nums.length = 1
      · simp only [c, if_true, true_and]
        refine ⟨fun h => ⟨[], ?_, by simp⟩, fun h => ?_⟩
        · rw [if_pos (by omega)]
        · rw [if_neg (by omega)]
      · simp [c]
  | w :: r, i, f, nums, g, t, kk, hd, hf, hnum, e, hlt, G, T => by
    cases f with
    | zero => simp at hf
    | succ f =>
      have hi : ws[i]? = some w := by
        have : (ws.drop i)[0]? = some w := by rw [hd]; rfl
        rw [List.getElem?_drop] at this
        simpa using this
      have hil : i < ws.length := (List.getElem?_eq_some_iff.mp hi).1
      have hd2 : ws.drop (i + 1) = r := by
        have : (ws.drop i).drop 1 = r := by rw [hd]; rfl
        rw [List.drop_drop] at this
        exact this
      have hwr : Ins n (w :: r) := fun v hv => hws v (by rw [← hd] at hv; exact List.mem_of_mem_drop hv)
      have iw := hwr w List.mem_cons_self
      have hr : Ins n r := fun v hv => hwr v (List.mem_cons_of_mem _ hv)
      have hf' : r.length < f := by simp at hf; omega
      have er : List.range' i (w :: r).length = i :: List.range' (i + 1) r.length := rfl
      have eo : onto t (w :: r) = (t w.1, t w.2) :: onto t r := rfl
      rw [er, eo, List.zip_cons_cons, TT_way G hwr]
      simp only [Sq57.make, treeGo]
      rw [zip_ends _ _ (by simp [onto])]
      have sc := spec_c G T hwr
      rw [sc]
      have ms := manyWith_step (n := n) e hi
      rw [hd2] at ms
      rw [ms]
      have ih1 := fun kk' => make_go hn hws r (i + 1) f nums g t kk' hd2 hf' hnum e hlt G T
      by_cases c : cls g w.1 = cls g w.2
      · simp only [c, if_true, Nat.not_lt_zero, if_false, Nat.sub_zero, Nat.add_zero]
        exact ih1 kk
      · simp only [c, if_false]
        by_cases c2 : kk < TT (n - nums.length - 1) r (cls (merged g w.1 w.2))
        · have G2 := G.merged iw.1 iw.2 c
          have T2 := T.next G iw.1 iw.2 c
          have k2 := G.two iw.1 iw.2 c
          have el : n - (nums ++ [i]).length = n - nums.length - 1 := by simp; omega
          have e2 : mergedBy (List.range n) (someWays ws (nums ++ [i])) = some (merged g w.1 w.2) := by
            have e3 : someWays ws (nums ++ [i]) = someWays ws nums ++ [w] := by
              simp only [someWays, List.map_append, List.map_cons, List.map_nil]
              rw [List.getD_eq_getElem?_getD, hi]; rfl
            rw [e3, mergedBy_append, e]
            simp only [Option.bind_some, mergedBy]
            rw [if_neg c]
          have ih2 := make_go hn hws r (i + 1) f (nums ++ [i]) (merged g w.1 w.2) (fun x => lastTo (n - nums.length) (t w.1) (t w.2) (t x)) kk hd2 hf'
            (fun j hj => by
              rcases List.mem_append.mp hj with q | q
              · exact hnum j q
              · simp at q; omega) e2 (by simp; omega) (by rw [el]; exact G2) (by rw [el]; exact T2)
          rw [el] at ih2
          rw [joined_onto, zip_onto, onto_onto, if_pos c2, if_pos c2]
          refine ⟨fun _ => ?_, fun h => absurd (Nat.lt_of_lt_of_le c2 (Nat.le_add_left _ _)) h⟩
          obtain ⟨tr, h1, h2⟩ := ih2.1 c2
          exact ⟨i :: tr, by rw [h1]; rfl, by rw [h2]; simp⟩
        · rw [if_neg c2, if_neg c2]
          refine ⟨fun h => (ih1 _).1 (by omega), fun h => (ih1 _).2 (by omega)⟩
theorem range_drop_zero (ws : List Way) : List.range ws.length = List.range' 0 (ws.drop 0).length := by rw [List.range_eq_range']; rfl
theorem make_tree {n k : Nat} {ws : List Way} (hn : 1 ≤ n) (hws : Ins n ws) (hl : ws.length < Sq57.FUEL) :
    (k < manyWith n ws [] 0 → Sq57.Graph.make ⟨n, ws⟩ k = some (treeOf n ws k)) ∧ (¬ k < manyWith n ws [] 0 → Sq57.Graph.make ⟨n, ws⟩ k = none) := by
  have q := make_go hn hws ws 0 Sq57.FUEL [] (List.range n) (fun x => x) k rfl hl (fun _ h => nomatch h) rfl hn (GOk.range n) (Lab.first n)
  simp only [List.length_nil, Nat.sub_zero, List.nil_append, onto_id] at q
  unfold Sq57.Graph.make Sq57.numbered treeOf
  rw [List.range_eq_range']
  refine ⟨fun h => ?_, q.2⟩
  obtain ⟨tr, h1, h2⟩ := q.1 h
  rw [h1, h2]
theorem count_many {n : Nat} {ws : List Way} (hn : 1 ≤ n) (hws : Ins n ws) : Sq57.Graph.count ⟨n, ws⟩ = manyWith n ws [] 0 := by
  show Sq57.count n ws = _
  rw [count_TT hn hws, manyWith_all hws]
/-- the number of a tree, by both -/
theorem number_go {n : Nat} {ws : List Way} (hn : 1 ≤ n) (hws : Ins n ws) (tr : List Nat) : ∀ (r : List Way) (i f : Nat) (nums : List Nat) (g : List Nat) (t : Nat → Nat) (acc : Nat),
    ws.drop i = r → r.length < f → (∀ j ∈ nums, j < ws.length) → mergedBy (List.range n) (someWays ws nums) = some g → nums.length < n → GOk n (n - nums.length) g → Lab n (n - nums.length) g t →
    (∃ g', mergedBy g (someWays ws ((List.range' i r.length).filter fun j => decide (j ∈ tr))) = some g' ∧ GOk n 1 g') →
    numGo n ws tr (List.range' i r.length) nums acc = acc + Sq57.number f (n - nums.length) ((List.range' i r.length).zip (onto t r)) tr ∧ Sq57.number f (n - nums.length) ((List.range' i r.length).zip (onto t r)) tr < TT (n - nums.length) r (cls g)
  | [], i, f, nums, g, t, acc, _, hf, _, _, hlt, G, _, hg => by
    cases f with
    | zero => simp at hf
    | succ f =>
      obtain ⟨g', h1, h2⟩ := hg
      have e1 : g = g' := by simpa [someWays, mergedBy] using h1
      subst e1
      have z : n - nums.length = 1 := by
        by_cases z : n - nums.length = 1
        · exact z
        · have := h2.lt 1 (G.all 1 (by omega))
          omega
      simp [numGo, Sq57.number, TT, z]
  | w :: r, i, f, nums, g, t, acc, hd, hf, hnum, e, hlt, G, T, hg => by
    cases f with
    | zero => simp at hf
    | succ f =>
      have hi : ws[i]? = some w := by
        have : (ws.drop i)[0]? = some w := by rw [hd]; rfl
        rw [List.getElem?_drop] at this
        simpa using this
      have hil : i < ws.length := (List.getElem?_eq_some_iff.mp hi).1
      have hd2 : ws.drop (i + 1) = r := by
        have : (ws.drop i).drop 1 = r := by rw [hd]; rfl
        rw [List.drop_drop] at this
        exact this
      have hwr : Ins n (w :: r) := fun v hv => hws v (by rw [← hd] at hv; exact List.mem_of_mem_drop hv)
      have iw := hwr w List.mem_cons_self
      have hf' : r.length < f := by simp at hf; omega
      have er : List.range' i (w :: r).length = i :: List.range' (i + 1) r.length := rfl
      have eo : onto t (w :: r) = (t w.1, t w.2) :: onto t r := rfl
      have ew : ws.getD i (0, 0) = w := by rw [List.getD_eq_getElem?_getD, hi]; rfl
      rw [er] at hg
      rw [er, eo, List.zip_cons_cons, TT_way G hwr]
      simp only [Sq57.number, numGo]
      rw [zip_ends _ _ (by simp [onto])]
      have sc := spec_c G T hwr
      rw [sc]
      have ms := manyWith_step (n := n) e hi
      rw [hd2] at ms
      rw [ms]
      by_cases hit : i ∈ tr
      · have hc : tr.contains i = true := by simpa using hit
        rw [if_pos hit, if_pos hc]
        rw [List.filter_cons, if_pos (by simpa using hit)] at hg
        obtain ⟨g', h1, h2⟩ := hg
        have h1' : mergedBy g (w :: someWays ws ((List.range' (i + 1) r.length).filter fun j => decide (j ∈ tr))) = some g' := by
          rw [← ew]; exact h1
        simp only [mergedBy] at h1'
        by_cases c : cls g w.1 = cls g w.2
        · rw [if_pos c] at h1'; cases h1'
        · rw [if_neg c] at h1' ⊢
          have G2 := G.merged iw.1 iw.2 c
          have T2 := T.next G iw.1 iw.2 c
          have k2 := G.two iw.1 iw.2 c
          have el : n - (nums ++ [i]).length = n - nums.length - 1 := by simp; omega
          have e2 : mergedBy (List.range n) (someWays ws (nums ++ [i])) = some (merged g w.1 w.2) := by
            have e3 : someWays ws (nums ++ [i]) = someWays ws nums ++ [w] := by
              simp only [someWays, List.map_append, List.map_cons, List.map_nil]
              rw [List.getD_eq_getElem?_getD, hi]; rfl
            rw [e3, mergedBy_append, e]
            simp only [Option.bind_some, mergedBy]
            rw [if_neg c]
          have ih2 := number_go hn hws tr r (i + 1) f (nums ++ [i]) (merged g w.1 w.2) (fun x => lastTo (n - nums.length) (t w.1) (t w.2) (t x)) acc hd2 hf'
            (fun j hj => by
              rcases List.mem_append.mp hj with q | q
              · exact hnum j q
              · simp at q; omega) e2 (by simp; omega) (by rw [el]; exact G2) (by rw [el]; exact T2) ⟨g', h1', h2⟩
          rw [el] at ih2
          rw [joined_onto, zip_onto, onto_onto]
          exact ⟨ih2.1, by omega⟩
      · have hc : ¬ tr.contains i = true := by simpa using hit
        rw [if_neg hit, if_neg hc]
        rw [List.filter_cons, if_neg (by simpa using hit)] at hg
        have ih := number_go hn hws tr r (i + 1) f nums g t (acc + if cls g w.1 = cls g w.2 then 0 else TT (n - nums.length - 1) r (cls (merged g w.1 w.2))) hd2 hf' hnum e hlt G T hg
        exact ⟨by omega, by omega⟩
end ST
end
section
namespace ST
/-! ### pigeons -/
theorem nodup_le : ∀ (n : Nat) (s : List Nat), s.Nodup → (∀ x ∈ s, x < n) → s.length ≤ n
  | 0, s, _, h => by
    cases s with
    | nil => simp
    | cons x _ => exact absurd (h x List.mem_cons_self) (Nat.not_lt_zero _)
  | n + 1, s, nd, h => by
    by_cases c : n ∈ s
    · have p := List.perm_cons_erase c
      have nd' := List.nodup_cons.mp (p.nodup_iff.mp nd)
      have q := nodup_le n (s.erase n) nd'.2 (fun x hx => by
        have h1 := h x (p.mem_iff.mpr (List.mem_cons_of_mem _ hx))
        have h2 : x ≠ n := fun e => nd'.1 (e ▸ hx)
        omega)
      have := p.length_eq
      simp at this
      omega
    · have q := nodup_le n s nd (fun x hx => by
        have h1 := h x hx
        have h2 : x ≠ n := fun e => c (e ▸ hx)
        omega)
      omega
/-- a list none twice within another is no longer -/
theorem nodup_sub {α : Type} [BEq α] [LawfulBEq α] : ∀ (s t : List α), s.Nodup → (∀ x ∈ s, x ∈ t) → s.length ≤ t.length
  | [], _, _, _ => by simp
  | x :: s, t, nd, h => by
    have hx := h x List.mem_cons_self
    have p := List.perm_cons_erase hx
    have nd' := List.nodup_cons.mp nd
    have q := nodup_sub s (t.erase x) nd'.2 (fun y hy => by
      have h1 := p.mem_iff.mp (h y (List.mem_cons_of_mem _ hy))
      rcases List.mem_cons.mp h1 with e | e
      · exact absurd (e ▸ hy) nd'.1
      · exact e)
    have := p.length_eq
    simp at this ⊢
    omega
/-! ### places come to -/
def fresh (l : List Way) (s : List Nat) : List Nat := (l.flatMap fun w => (if s.contains w.1 = true then [w.2] else []) ++ (if s.contains w.2 = true then [w.1] else [])).foldl (fun (m : List Nat) x => if s.contains x || m.contains x then m else m ++ [x]) []
theorem reached_succ (l : List Way) (f : Nat) (s : List Nat) : Sq57.reached l (f + 1) s = Sq57.reached l f (s ++ fresh l s) := rfl
theorem fold_fresh (s : List Nat) : ∀ (c m : List Nat), (s ++ m).Nodup →
    (s ++ c.foldl (fun (m : List Nat) x => if s.contains x || m.contains x then m else m ++ [x]) m).Nodup ∧
    (∀ x, x ∈ c.foldl (fun (m : List Nat) x => if s.contains x || m.contains x then m else m ++ [x]) m → x ∈ m ∨ x ∈ c) ∧
    (∀ x, x ∈ c ∨ x ∈ m → x ∈ s ∨ x ∈ c.foldl (fun (m : List Nat) x => if s.contains x || m.contains x then m else m ++ [x]) m)
  | [], m, h => ⟨h, fun _ hx => .inl hx, fun x hx => by
    rcases hx with hx | hx
    · exact nomatch hx
    · exact .inr hx⟩
  | y :: c, m, h => by
    rw [List.foldl_cons]
    by_cases q : (s.contains y || m.contains y) = true
    · rw [if_pos q]
      obtain ⟨h1, h2, h3⟩ := fold_fresh s c m h
      refine ⟨h1, fun x hx => (h2 x hx).elim .inl (fun z => .inr (List.mem_cons_of_mem _ z)), fun x hx => ?_⟩
      have q' : y ∈ s ∨ y ∈ m := by simpa using q
      rcases hx with hx | hx
      · rcases List.mem_cons.mp hx with e | e
        · subst e
          rcases q' with z | z
          · exact .inl z
          · exact h3 x (.inr z)
        · exact h3 x (.inl e)
      · exact h3 x (.inr hx)
    · rw [if_neg q]
      have q' : y ∉ s ∧ y ∉ m := by simpa using q
      have nd : (s ++ (m ++ [y])).Nodup := by
        rw [← List.append_assoc, List.nodup_append]
        refine ⟨h, by simp, fun a ha b hb => ?_⟩
        simp at hb
        subst hb
        rintro rfl
        rcases List.mem_append.mp ha with z | z
        · exact q'.1 z
        · exact q'.2 z
      obtain ⟨h1, h2, h3⟩ := fold_fresh s c (m ++ [y]) nd
      refine ⟨h1, fun x hx => ?_, fun x hx => ?_⟩
      · rcases h2 x hx with z | z
        · rcases List.mem_append.mp z with z | z
          · exact .inl z
          · simp at z; subst z; exact .inr List.mem_cons_self
        · exact .inr (List.mem_cons_of_mem _ z)
      · rcases hx with hx | hx
        · rcases List.mem_cons.mp hx with e | e
          · subst e; exact h3 x (.inr (by simp))
          · exact h3 x (.inl e)
        · exact h3 x (.inr (List.mem_append_left _ hx))
def Closed (l : List Way) (P : Nat → Prop) : Prop := ∀ w ∈ l, (P w.1 ↔ P w.2)
theorem mem_nb {l : List Way} {s : List Nat} {x : Nat} : x ∈ (l.flatMap fun w => (if s.contains w.1 = true then [w.2] else []) ++ (if s.contains w.2 = true then [w.1] else [])) ↔ ∃ w ∈ l, (w.1 ∈ s ∧ x = w.2) ∨ (w.2 ∈ s ∧ x = w.1) := by
  rw [List.mem_flatMap]
  constructor
  · rintro ⟨w, hw, hx⟩
    refine ⟨w, hw, ?_⟩
    rcases List.mem_append.mp hx with z | z
    · by_cases c : s.contains w.1 = true
      · rw [if_pos c] at z
        exact .inl ⟨by simpa using c, by simpa using z⟩
      · rw [if_neg c] at z; exact nomatch z
    · by_cases c : s.contains w.2 = true
      · rw [if_pos c] at z
        exact .inr ⟨by simpa using c, by simpa using z⟩
      · rw [if_neg c] at z; exact nomatch z
  · rintro ⟨w, hw, ⟨h, rfl⟩ | ⟨h, rfl⟩⟩
    · exact ⟨w, hw, List.mem_append_left _ (by simp [h])⟩
    · exact ⟨w, hw, List.mem_append_right _ (by simp [h])⟩
theorem fresh_nil_closed {l : List Way} {s : List Nat} (nd : s.Nodup) (h : fresh l s = []) : Closed l (· ∈ s) := by
  obtain ⟨_, _, h3⟩ := fold_fresh s (l.flatMap fun w => (if s.contains w.1 = true then [w.2] else []) ++ (if s.contains w.2 = true then [w.1] else [])) [] (by simpa using nd)
  have all : ∀ x, (∃ w ∈ l, (w.1 ∈ s ∧ x = w.2) ∨ (w.2 ∈ s ∧ x = w.1)) → x ∈ s := fun x hx => by
    rcases h3 x (.inl (mem_nb.mpr hx)) with z | z
    · exact z
    · have z' : x ∈ fresh l s := z
      rw [h] at z'; exact nomatch z'
  intro w hw
  exact ⟨fun h => all w.2 ⟨w, hw, .inl ⟨h, rfl⟩⟩, fun h => all w.1 ⟨w, hw, .inr ⟨h, rfl⟩⟩⟩
theorem closed_fresh_nil {l : List Way} {s : List Nat} (nd : s.Nodup) (h : Closed l (· ∈ s)) : fresh l s = [] := by
  obtain ⟨h1, h2, _⟩ := fold_fresh s (l.flatMap fun w => (if s.contains w.1 = true then [w.2] else []) ++ (if s.contains w.2 = true then [w.1] else [])) [] (by simpa using nd)
  have all : ∀ x ∈ fresh l s, False := fun x hx => by
    have hx2 := h2 x hx
    have hs : x ∈ s := by
      rcases hx2 with z | z
      · exact nomatch z
      · obtain ⟨w, hw, ⟨q, rfl⟩ | ⟨q, rfl⟩⟩ := mem_nb.mp z
        · exact (h w hw).mp q
        · exact (h w hw).mpr q
    exact (List.nodup_append.mp h1).2.2 x hs x hx rfl
  cases q : fresh l s with
  | nil => rfl
  | cons x r => exact (all x (by rw [q]; exact List.mem_cons_self)).elim
theorem reached_stay {l : List Way} {s : List Nat} (nd : s.Nodup) (h : Closed l (· ∈ s)) : ∀ f : Nat, Sq57.reached l f s = s
  | 0 => rfl
  | f + 1 => by rw [reached_succ, closed_fresh_nil nd h, List.append_nil]; exact reached_stay nd h f
theorem reached_closed {n : Nat} {l : List Way} (hl : Ins n l) : ∀ (f : Nat) (s : List Nat), s.Nodup → (∀ x ∈ s, x < n) → n < s.length + f → Closed l (· ∈ Sq57.reached l f s) ∧ ∀ x ∈ s, x ∈ Sq57.reached l f s
  | 0, s, nd, hs, h => by
    have := nodup_le n s nd hs
    omega
  | f + 1, s, nd, hs, h => by
    rw [reached_succ]
    obtain ⟨h1, h2, _⟩ := fold_fresh s (l.flatMap fun w => (if s.contains w.1 = true then [w.2] else []) ++ (if s.contains w.2 = true then [w.1] else [])) [] (by simpa using nd)
    by_cases q : fresh l s = []
    · rw [q, List.append_nil, reached_stay nd (fresh_nil_closed nd q)]
      exact ⟨fresh_nil_closed nd q, fun _ hx => hx⟩
    · have hlen : 1 ≤ (fresh l s).length := by
        cases z : fresh l s with
        | nil => exact absurd z q
        | cons _ _ => simp
      have ih := reached_closed hl f (s ++ fresh l s) h1 (fun x hx => by
        rcases List.mem_append.mp hx with z | z
        · exact hs x z
        · rcases h2 x z with z | z
          · exact nomatch z
          · obtain ⟨w, hw, ⟨_, rfl⟩ | ⟨_, rfl⟩⟩ := mem_nb.mp z
            · exact (hl w hw).2
            · exact (hl w hw).1) (by rw [List.length_append]; omega)
      exact ⟨ih.1, fun x hx => ih.2 x (List.mem_append_left _ hx)⟩
theorem reached_sub {l : List Way} {P : Nat → Prop} (hP : Closed l P) : ∀ (f : Nat) (s : List Nat), s.Nodup → (∀ x ∈ s, P x) → ∀ x ∈ Sq57.reached l f s, P x
  | 0, _, _, hs => hs
  | f + 1, s, nd, hs => by
    rw [reached_succ]
    obtain ⟨h1, h2, _⟩ := fold_fresh s (l.flatMap fun w => (if s.contains w.1 = true then [w.2] else []) ++ (if s.contains w.2 = true then [w.1] else [])) [] (by simpa using nd)
    refine reached_sub hP f _ h1 (fun x hx => ?_)
    rcases List.mem_append.mp hx with z | z
    · exact hs x z
    · rcases h2 x z with z | z
      · exact nomatch z
      · obtain ⟨w, hw, ⟨q, rfl⟩ | ⟨q, rfl⟩⟩ := mem_nb.mp z
        · exact (hP w hw).mp (hs _ q)
        · exact (hP w hw).mpr (hs _ q)
/-! ### groups and what is come to -/
theorem mergedBy_sound {n : Nat} {P : Nat → Prop} : ∀ {ws : List Way} {k : Nat} {g g' : List Nat}, GOk n k g → Ins n ws → Closed ws P → mergedBy g ws = some g' →
    (∀ x y, x < n → y < n → cls g x = cls g y → (P x ↔ P y)) → ∀ x y, x < n → y < n → cls g' x = cls g' y → (P x ↔ P y)
  | [], _, _, _, _, _, _, e, h => by cases e; exact h
  | w :: r, k, g, g', G, hw, hP, e, h => by
    simp only [mergedBy] at e
    have iw := hw w List.mem_cons_self
    by_cases c : cls g w.1 = cls g w.2
    · rw [if_pos c] at e; cases e
    · rw [if_neg c] at e
      have pw := hP w List.mem_cons_self
      refine mergedBy_sound (G.merged iw.1 iw.2 c) (fun v hv => hw v (List.mem_cons_of_mem _ hv)) (fun v hv => hP v (List.mem_cons_of_mem _ hv)) e (fun x y hx hy q => ?_)
      rw [merged_ker G c hx hy, mg_iff] at q
      rcases q with q | ⟨q1, q2⟩ | ⟨q1, q2⟩
      · exact h x y hx hy q
      · rw [h x w.1 hx iw.1 q1, h y w.2 hy iw.2 q2]; exact pw
      · rw [h x w.2 hx iw.2 q1, h y w.1 hy iw.1 q2]; exact pw.symm
def mergedT : List Nat → List Way → List Nat
  | g, [] => g
  | g, w :: r => if cls g w.1 = cls g w.2 then mergedT g r else mergedT (merged g w.1 w.2) r
theorem mergedT_ok {n : Nat} : ∀ (ws : List Way) (k : Nat) (g : List Nat), GOk n k g → Ins n ws → ∃ k', GOk n k' (mergedT g ws) ∧ k ≤ k' + ws.length ∧ (mergedBy g ws = none → k + 1 ≤ k' + ws.length) ∧
    (∀ w ∈ ws, cls (mergedT g ws) w.1 = cls (mergedT g ws) w.2) ∧ ∀ x y, x < n → y < n → cls g x = cls g y → cls (mergedT g ws) x = cls (mergedT g ws) y
  | [], k, g, G, _ => ⟨k, G, by simp, fun e => by simp [mergedBy] at e, fun _ h => (nomatch h), fun _ _ _ _ h => h⟩
  | w :: r, k, g, G, hw => by
    have iw := hw w List.mem_cons_self
    have hr : Ins n r := fun v hv => hw v (List.mem_cons_of_mem _ hv)
    simp only [mergedT, mergedBy, List.length_cons]
    by_cases c : cls g w.1 = cls g w.2
    · simp only [c, if_true]
      obtain ⟨k', h1, h2, _, h4, h5⟩ := mergedT_ok r k g G hr
      refine ⟨k', h1, by omega, fun _ => by omega, fun v hv => ?_, h5⟩
      rcases List.mem_cons.mp hv with e | e
      · subst e; exact h5 _ _ iw.1 iw.2 c
      · exact h4 v e
    · simp only [c, if_false]
      have k2 := G.two iw.1 iw.2 c
      obtain ⟨k', h1, h2, h3, h4, h5⟩ := mergedT_ok r (k - 1) _ (G.merged iw.1 iw.2 c) hr
      refine ⟨k', h1, by omega, fun e => by have := h3 e; omega, fun v hv => ?_, fun x y hx hy q => ?_⟩
      · rcases List.mem_cons.mp hv with e | e
        · subst e
          refine h5 _ _ iw.1 iw.2 ?_
          rw [merged_ker G c iw.1 iw.2, mg_iff]
          exact .inr (.inl ⟨rfl, rfl⟩)
        · exact h4 v e
      · refine h5 x y hx hy ?_
        rw [merged_ker G c hx hy, mg_iff]
        exact .inl q
def spansB (n : Nat) (ws : List Way) : Bool := decide (ws.length + 1 = n) && (mergedBy (List.range n) ws).isSome
theorem spans_reach {n : Nat} {ws : List Way} (hw : Ins n ws) (hl : ws.length + 1 = n) : (mergedBy (List.range n) ws).isSome = (List.range n).all fun x => (Sq57.reached ws n [0]).contains x := by
  have rc := reached_closed hw n [0] (by simp) (fun x hx => by simp at hx; omega) (by simp)
  rw [Bool.eq_iff_iff, List.all_eq_true]
  constructor
  · intro h x hx
    obtain ⟨g', e⟩ := Option.isSome_iff_exists.mp h
    have hx' : x < n := by simpa using hx
    have ok := mergedBy_ok (GOk.range n) hw e
    have e1 : n - ws.length = 1 := by omega
    rw [e1] at ok
    have snd := mergedBy_sound (GOk.range n) hw rc.1 e (fun x y hx hy q => by rw [cls_range hx, cls_range hy] at q; rw [q]) 0 x (by omega) hx' (by
      have h1 := ok.1.cls_lt (x := 0) (by omega)
      have h2 := ok.1.cls_lt (x := x) hx'
      omega)
    simpa using snd.mp (rc.2 0 (by simp))
  · intro h
    cases e : mergedBy (List.range n) ws with
    | some g' => rfl
    | none =>
      obtain ⟨k', h1, h2, h3, h4, h5⟩ := mergedT_ok ws n (List.range n) (GOk.range n) hw
      have k2 := h3 e
      have sub := reached_sub (l := ws) (P := fun x => cls (mergedT (List.range n) ws) x = cls (mergedT (List.range n) ws) 0) (fun w hw' => by show _ = _ ↔ _ = _; rw [h4 w hw']) n [0] (by simp) (fun x hx => by simp at hx; rw [hx])
      have c1 := h1.cls_lt (x := 0) (by omega)
      let c := if cls (mergedT (List.range n) ws) 0 = 0 then 1 else 0
      have hc : c < k' := by show (if _ then 1 else 0) < k'; split <;> omega
      have hne : c ≠ cls (mergedT (List.range n) ws) 0 := by show (if _ then 1 else 0) ≠ _; split <;> omega
      obtain ⟨x, hx, ex⟩ := List.getElem_of_mem (h1.all c hc)
      have hx' : x < n := by rw [← h1.len]; exact hx
      have q := sub x (by simpa using h x (by simpa using hx'))
      rw [cls_get hx, ex] at q
      exact absurd q hne
theorem filterMap_some (ws : List Way) : ∀ (t : List Nat), (∀ i ∈ t, i < ws.length) → t.filterMap (fun i => ws[i]?) = someWays ws t
  | [], _ => rfl
  | i :: t, h => by
    have hi := h i List.mem_cons_self
    have e : ws[i]? = some ws[i] := List.getElem?_eq_getElem hi
    rw [List.filterMap_cons_some e, filterMap_some ws t (fun j hj => h j (List.mem_cons_of_mem _ hj))]
    simp [someWays, List.getD_eq_getElem?_getD, e]
/-- a tree that spans, by both -/
def risingB (t : List Nat) : Bool := decide (t.Pairwise (· < ·))
def isTreeB (n : Nat) (ws : List Way) (t : List Nat) : Bool := risingB t && (t.all fun i => decide (i < ws.length)) && spansB n (someWays ws t)
theorem spans_eq {n : Nat} {ws : List Way} (hw : Ins n ws) (t : List Nat) : Sq57.spans ⟨n, ws⟩ t = isTreeB n ws t := by
  unfold Sq57.spans isTreeB spansB risingB
  simp only
  by_cases h2 : (t.all fun i => decide (i < ws.length)) = true
  · have h2' : ∀ i ∈ t, i < ws.length := fun i hi => by simpa using List.all_eq_true.mp h2 i hi
    have hl : (someWays ws t).length = t.length := by simp [someWays]
    rw [filterMap_some ws t h2', hl, h2]
    by_cases h1 : t.length + 1 = n
    · rw [spans_reach (hw.some h2') (by rw [hl]; exact h1)]
      simp only [h1, decide_true, Bool.true_and, Bool.and_true]
    · simp [h1]
  · have h2' : (t.all fun i => decide (i < ws.length)) = false := by simpa using h2
    rw [h2']
    simp
theorem someWays_range (ws : List Way) : someWays ws (List.range ws.length) = ws := by
  refine List.ext_getElem (by simp [someWays]) (fun i h1 h2 => ?_)
  simp [someWays, List.getD_eq_getElem?_getD, List.getElem?_eq_getElem h2]
theorem pairwise_range (n : Nat) : (List.range n).Pairwise (· < ·) := List.pairwise_lt_range
theorem spans_range {n : Nat} {ws : List Way} (hw : Ins n ws) : Sq57.spans ⟨n, ws⟩ (List.range ws.length) = spansB n ws := by
  rw [spans_eq hw]
  unfold isTreeB risingB
  rw [someWays_range]
  have h1 : decide ((List.range ws.length).Pairwise (· < ·)) = true := decide_eq_true (pairwise_range _)
  have h2 : ((List.range ws.length).all fun i => decide (i < ws.length)) = true := by simp
  rw [h1, h2]
  simp
/-- rising lists with the same members are one -/
theorem rising_ext : ∀ (s t : List Nat), s.Pairwise (· < ·) → t.Pairwise (· < ·) → (∀ x, x ∈ s ↔ x ∈ t) → s = t
  | [], [], _, _, _ => rfl
  | [], y :: t, _, _, h => absurd ((h y).mpr List.mem_cons_self) (by simp)
  | x :: s, [], _, _, h => absurd ((h x).mp List.mem_cons_self) (by simp)
  | x :: s, y :: t, hs, ht, h => by
    have ps := List.pairwise_cons.mp hs
    have pt := List.pairwise_cons.mp ht
    have e : x = y := by
      rcases List.mem_cons.mp ((h x).mp List.mem_cons_self) with q | q
      · exact q
      · rcases List.mem_cons.mp ((h y).mpr List.mem_cons_self) with q' | q'
        · exact q'.symm
        · have := pt.1 x q
          have := ps.1 y q'
          omega
    subst e
    congr 1
    refine rising_ext s t ps.2 pt.2 (fun z => ?_)
    constructor
    · intro hz
      rcases List.mem_cons.mp ((h z).mp (List.mem_cons_of_mem _ hz)) with q | q
      · have := ps.1 z hz; omega
      · exact q
    · intro hz
      rcases List.mem_cons.mp ((h z).mpr (List.mem_cons_of_mem _ hz)) with q | q
      · have := pt.1 z hz; omega
      · exact q
theorem filter_tree {t : List Nat} {m : Nat} (h : t.Pairwise (· < ·)) (hm : ∀ i ∈ t, i < m) : (List.range m).filter (fun j => decide (j ∈ t)) = t := by
  refine rising_ext _ _ ((pairwise_range m).filter _) h (fun x => ?_)
  rw [List.mem_filter, List.mem_range]
  simp only [decide_eq_true_eq]
  exact ⟨fun h => h.2, fun h => ⟨hm x h, h⟩⟩
theorem isTree_parts {n : Nat} {ws : List Way} {t : List Nat} (h : isTreeB n ws t = true) : t.Pairwise (· < ·) ∧ (∀ i ∈ t, i < ws.length) ∧ t.length + 1 = n ∧ ∃ g', mergedBy (List.range n) (someWays ws t) = some g' := by
  unfold isTreeB risingB spansB at h
  rw [Bool.and_eq_true, Bool.and_eq_true, Bool.and_eq_true] at h
  obtain ⟨⟨h1, h2⟩, h3, h4⟩ := h
  refine ⟨of_decide_eq_true h1, fun i hi => by simpa using List.all_eq_true.mp h2 i hi, ?_, Option.isSome_iff_exists.mp h4⟩
  have := of_decide_eq_true h3
  simpa [someWays] using this
theorem number_tree {n : Nat} {ws : List Way} {t : List Nat} (hn : 1 ≤ n) (hws : Ins n ws) (hl : ws.length < Sq57.FUEL) (h : isTreeB n ws t = true) :
    Sq57.Graph.number ⟨n, ws⟩ t = numberOf n ws t ∧ numberOf n ws t < manyWith n ws [] 0 := by
  obtain ⟨h1, h2, h3, g', h4⟩ := isTree_parts h
  have ok := mergedBy_ok (GOk.range n) (hws.some h2) h4
  have e1 : n - (someWays ws t).length = 1 := by simp [someWays]; omega
  rw [e1] at ok
  have q := number_go hn hws t ws 0 Sq57.FUEL [] (List.range n) (fun x => x) 0 rfl hl (fun _ h => nomatch h) rfl hn (GOk.range n) (Lab.first n) ⟨g', by
    rw [← List.range_eq_range', filter_tree h1 h2]; exact h4, ok.1⟩
  simp only [List.length_nil, Nat.sub_zero, onto_id, Nat.zero_add] at q
  unfold Sq57.Graph.number Sq57.numbered numberOf
  rw [List.range_eq_range', q.1]
  refine ⟨rfl, ?_⟩
  have := q.2
  exact this
end ST
end
section
namespace ST
/-! ### a tree as a row -/
def hasP (x : Nat) (w : Way) : Bool := w.1 == x || w.2 == x
def waysAt (ws : List Way) (x : Nat) : List Way := ws.filter (hasP x)
def deg (ws : List Way) (x : Nat) : Nat := (waysAt ws x).length
def ends (n : Nat) (ws : List Way) : List Nat := (List.range n).filter fun x => decide (deg ws x = 1)
def otherEnd (w : Way) (x : Nat) : Nat := if w.1 = x then w.2 else w.1
def rowGo (n : Nat) : Nat → List Way → List Nat
  | 0, _ => []
  | f + 1, left =>
    let x := (ends n left).headD 0
    let w := (waysAt left x).headD (0, 0)
    otherEnd w x :: rowGo n f (left.filter fun v => decide (v ≠ w))
def rowOf (n : Nat) (ws : List Way) : List Nat := rowGo n (n - 2) ws
theorem hasP_iff {x : Nat} {w : Way} : hasP x w = true ↔ (w.1 = x ∨ w.2 = x) := by simp [hasP]
theorem deg_snoc (ws : List Way) (w : Way) (x : Nat) : deg (ws ++ [w]) x = deg ws x + if hasP x w = true then 1 else 0 := by
  unfold deg waysAt
  rw [List.filter_append, List.length_append]
  by_cases c : hasP x w = true <;> simp [c]
def Leafy (n : Nat) (p : List Way) (g : List Nat) : Prop := ∀ a, a < n → deg p a = 0 ∨ ∃ u, u < n ∧ u ≠ a ∧ cls g u = cls g a ∧ deg p u = 1
theorem Leafy.next {n k : Nat} {p : List Way} {g : List Nat} (h : Leafy n p g) (G : GOk n k g) {w : Way} (iw : w.1 < n ∧ w.2 < n) (c : cls g w.1 ≠ cls g w.2) : Leafy n (p ++ [w]) (merged g w.1 w.2) := by
  have side : ∀ a b x : Nat, a < n → b < n → x < n → cls g a ≠ cls g b → ((a = w.1 ∧ b = w.2) ∨ (a = w.2 ∧ b = w.1)) → cls g x = cls g a → ∃ u, u < n ∧ u ≠ x ∧ cls (merged g w.1 w.2) u = cls (merged g w.1 w.2) x ∧ deg (p ++ [w]) u = 1 := by
    intro a b x ha hb hx hab hw hxa
    have ub : ∃ u, u < n ∧ cls g u = cls g b ∧ deg (p ++ [w]) u = 1 := by
      rcases h b hb with q | ⟨u, hu, hub, hc, hd⟩
      · refine ⟨b, hb, rfl, ?_⟩
        rw [deg_snoc, q, if_pos (hasP_iff.mpr (by rcases hw with ⟨_, q⟩ | ⟨_, q⟩ <;> simp [q]))]
      · refine ⟨u, hu, hc, ?_⟩
        rw [deg_snoc, hd, if_neg]
        intro z
        have hua : u ≠ a := fun e => hab (by rw [← e, hc])
        rcases hasP_iff.mp z with z | z <;> rcases hw with ⟨q1, q2⟩ | ⟨q1, q2⟩ <;> omega
    obtain ⟨u, hu, hc, hd⟩ := ub
    refine ⟨u, hu, fun e => hab (by rw [← hxa, ← e, hc]), ?_, hd⟩
    rw [merged_ker G c hu hx, mg_iff]
    rcases hw with ⟨q1, q2⟩ | ⟨q1, q2⟩
    · exact .inr (.inr ⟨by rw [hc, q2], by rw [hxa, q1]⟩)
    · exact .inr (.inl ⟨by rw [hc, q2], by rw [hxa, q1]⟩)
  intro x hx
  by_cases c1 : cls g x = cls g w.1
  · exact .inr (side w.1 w.2 x iw.1 iw.2 hx c (.inl ⟨rfl, rfl⟩) c1)
  · by_cases c2 : cls g x = cls g w.2
    · exact .inr (side w.2 w.1 x iw.2 iw.1 hx (Ne.symm c) (.inr ⟨rfl, rfl⟩) c2)
    · have same : ∀ u, cls g u = cls g x → deg (p ++ [w]) u = deg p u := fun u hu => by
        rw [deg_snoc, if_neg, Nat.add_zero]
        intro z
        rcases hasP_iff.mp z with z | z
        · exact c1 (by rw [← hu, z])
        · exact c2 (by rw [← hu, z])
      rcases h x hx with q | ⟨u, hu, hux, hc, hd⟩
      · exact .inl (by rw [same x rfl, q])
      · refine .inr ⟨u, hu, hux, ?_, by rw [same u hc, hd]⟩
        rw [merged_ker G c hu hx, mg_iff]
        exact .inl hc
theorem leafy_all {n : Nat} : ∀ (r p : List Way) (k : Nat) (g g' : List Nat), GOk n k g → Ins n r → Leafy n p g → mergedBy g r = some g' → Leafy n (p ++ r) g'
  | [], p, _, g, g', _, _, h, e => by
    cases e
    rw [List.append_nil]
    exact h
  | w :: r, p, k, g, g', G, hw, h, e => by
    simp only [mergedBy] at e
    have iw := hw w List.mem_cons_self
    by_cases c : cls g w.1 = cls g w.2
    · rw [if_pos c] at e; cases e
    · rw [if_neg c] at e
      have q := leafy_all r (p ++ [w]) (k - 1) _ g' (G.merged iw.1 iw.2 c) (fun v hv => hw v (List.mem_cons_of_mem _ hv)) (h.next G iw c) e
      simpa using q
/-- ways of which none closes a ring -/
def Forest (n : Nat) (ws : List Way) : Prop := Ins n ws ∧ ∃ g', mergedBy (List.range n) ws = some g'
theorem Forest.leaf {n : Nat} {ws : List Way} (h : Forest n ws) (hne : ws ≠ []) : ∃ x, x < n ∧ deg ws x = 1 := by
  obtain ⟨hw, g', e⟩ := h
  have q := leafy_all ws [] n (List.range n) g' (GOk.range n) hw (fun a _ => .inl rfl) e
  rw [List.nil_append] at q
  cases ws with
  | nil => exact absurd rfl hne
  | cons w r =>
    rcases q w.1 (hw w List.mem_cons_self).1 with z | ⟨u, hu, _, _, hd⟩
    · exfalso
      have : 0 < deg (w :: r) w.1 := by
        unfold deg waysAt
        rw [List.filter_cons, if_pos (hasP_iff.mpr (.inl rfl))]
        simp
      omega
    · exact ⟨u, hu, hd⟩
def Finer (n : Nat) (g h : List Nat) : Prop := ∀ x y, x < n → y < n → cls g x = cls g y → cls h x = cls h y
theorem Finer.merged {n k j a b : Nat} {g h : List Nat} (f : Finer n g h) (G : GOk n k g) (Hh : GOk n j h) (ha : a < n) (hb : b < n) (cg : cls g a ≠ cls g b) (ch : cls h a ≠ cls h b) : Finer n (merged g a b) (merged h a b) := fun x y hx hy q => by
  rw [merged_ker G cg hx hy, mg_iff] at q
  rw [merged_ker Hh ch hx hy, mg_iff]
  rcases q with q | ⟨q1, q2⟩ | ⟨q1, q2⟩
  · exact .inl (f x y hx hy q)
  · exact .inr (.inl ⟨f x a hx ha q1, f y b hy hb q2⟩)
  · exact .inr (.inr ⟨f x b hx hb q1, f y a hy ha q2⟩)
theorem sub_forest {n : Nat} {l' l : List Way} (s : l'.Sublist l) : ∀ {k j : Nat} {g h h' : List Nat}, GOk n k g → GOk n j h → Ins n l → Finer n g h → mergedBy h l = some h' → ∃ g', mergedBy g l' = some g' := by
  induction s with
  | slnil => intro k j g h h' _ _ _ _ _; exact ⟨g, rfl⟩
  | @cons l₁ l₂ a s ih =>
    intro k j g h h' G Hh hw f e
    simp only [mergedBy] at e
    have iw := hw a List.mem_cons_self
    by_cases c : cls h a.1 = cls h a.2
    · rw [if_pos c] at e; cases e
    · rw [if_neg c] at e
      refine ih G (Hh.merged iw.1 iw.2 c) (fun v hv => hw v (List.mem_cons_of_mem _ hv)) (fun x y hx hy q => ?_) e
      rw [merged_ker Hh c hx hy, mg_iff]
      exact .inl (f x y hx hy q)
  | @cons_cons l₁ l₂ a s ih =>
    intro k j g h h' G Hh hw f e
    simp only [mergedBy] at e ⊢
    have iw := hw a List.mem_cons_self
    by_cases c : cls h a.1 = cls h a.2
    · rw [if_pos c] at e; cases e
    · rw [if_neg c] at e
      have cg : cls g a.1 ≠ cls g a.2 := fun q => c (f _ _ iw.1 iw.2 q)
      rw [if_neg cg]
      exact ih (G.merged iw.1 iw.2 cg) (Hh.merged iw.1 iw.2 c) (fun v hv => hw v (List.mem_cons_of_mem _ hv)) (f.merged G Hh iw.1 iw.2 cg c) e
theorem Forest.sub {n : Nat} {l' l : List Way} (h : Forest n l) (s : l'.Sublist l) : Forest n l' := by
  obtain ⟨hw, h', e⟩ := h
  exact ⟨fun w hw' => hw w (s.subset hw'), sub_forest s (GOk.range n) (GOk.range n) hw (fun _ _ _ _ q => q) e⟩
theorem noloop_go {n : Nat} : ∀ {ws : List Way} {k : Nat} {g g' : List Nat}, GOk n k g → Ins n ws → mergedBy g ws = some g' → ∀ w ∈ ws, w.1 ≠ w.2
  | [], _, _, _, _, _, _ => fun _ h => nomatch h
  | w :: r, k, g, g', G, hw, e => by
    simp only [mergedBy] at e
    have iw := hw w List.mem_cons_self
    by_cases c : cls g w.1 = cls g w.2
    · rw [if_pos c] at e; cases e
    · rw [if_neg c] at e
      intro v hv
      rcases List.mem_cons.mp hv with q | q
      · subst q; exact fun z => c (by rw [z])
      · exact noloop_go (G.merged iw.1 iw.2 c) (fun v hv => hw v (List.mem_cons_of_mem _ hv)) e v q
theorem Forest.noloop {n : Nat} {ws : List Way} (h : Forest n ws) : ∀ w ∈ ws, w.1 ≠ w.2 := by
  obtain ⟨hw, g', e⟩ := h
  exact noloop_go (GOk.range n) hw e
/-- one turn: the least end, its way, and what is left -/
theorem turn_ok {n : Nat} {left : List Way} (h : Forest n left) (hne : left ≠ []) :
    ∃ x w xs, ends n left = x :: xs ∧ x < n ∧ waysAt left x = [w] ∧ w ∈ left ∧ hasP x w = true ∧
      (left.filter fun v => decide (v ≠ w)) = (left.filter fun v => !hasP x v) ∧ Forest n (left.filter fun v => decide (v ≠ w)) ∧ (left.filter fun v => decide (v ≠ w)).length + 1 = left.length := by
  obtain ⟨y, hy, hd⟩ := h.leaf hne
  have hm : y ∈ ends n left := List.mem_filter.mpr ⟨by simpa using hy, by simpa using hd⟩
  cases e : ends n left with
  | nil => rw [e] at hm; exact nomatch hm
  | cons x xs =>
    have hx : x ∈ ends n left := by rw [e]; exact List.mem_cons_self
    have hx1 : x < n := by simpa using (List.mem_filter.mp hx).1
    have hx2 : deg left x = 1 := by simpa using (List.mem_filter.mp hx).2
    obtain ⟨w, ew⟩ := List.length_eq_one_iff.mp hx2
    have hw : w ∈ waysAt left x := by rw [ew]; exact List.mem_cons_self
    have hw1 := (List.mem_filter.mp hw).1
    have hw2 : hasP x w = true := (List.mem_filter.mp hw).2
    have ef : (left.filter fun v => decide (v ≠ w)) = (left.filter fun v => !hasP x v) := by
      refine List.filter_congr (fun v hv => ?_)
      by_cases c : v = w
      · subst c; simp [hw2]
      · have : hasP x v = false := by
          cases q : hasP x v with
          | false => rfl
          | true =>
            have : v ∈ waysAt left x := List.mem_filter.mpr ⟨hv, q⟩
            rw [ew] at this
            exact absurd (by simpa using this) c
        simp [c, this]
    refine ⟨x, w, xs, rfl, hx1, ew, hw1, hw2, ef, h.sub List.filter_sublist, ?_⟩
    rw [ef]
    have q := List.length_eq_countP_add_countP (hasP x) (l := left)
    rw [List.countP_eq_length_filter, List.countP_eq_length_filter] at q
    have q2 : (left.filter (hasP x)).length = 1 := hx2
    have q3 : (left.filter fun v => decide (¬ hasP x v = true)) = left.filter fun v => !hasP x v := List.filter_congr (fun v _ => by cases hasP x v <;> rfl)
    rw [q3] at q
    omega
theorem find_head {α : Type} (p : α → Bool) : ∀ l : List α, l.find? p = (l.filter p).head?
  | [] => rfl
  | a :: l => by
    rw [List.find?_cons, List.filter_cons]
    cases q : p a with
    | true => rfl
    | false => exact find_head p l
theorem at_deg {ws : List Way} (h : ∀ w ∈ ws, w.1 ≠ w.2) (x : Nat) : Sq57.at_ ws x = deg ws x := by
  unfold Sq57.at_ deg waysAt
  congr 1
  refine List.filter_congr (fun w hw => ?_)
  have hne := h w hw
  unfold hasP
  have x1 : (w.1 == x) = true → (w.2 == x) = false := fun q => by
    have := beq_iff_eq.mp q
    exact beq_eq_false_iff_ne.mpr (by omega)
  generalize (w.1 == x) = b1 at *
  generalize (w.2 == x) = b2 at *
  cases b1 <;> cases b2 <;> simp at x1 ⊢
theorem toRow_go {n : Nat} : ∀ (f : Nat) (left : List Way) (gone : List Nat), Forest n left → f < left.length + 1 → (∀ x ∈ gone, deg left x = 0) → Sq57.toRow n f gone left = rowGo n f left
  | 0, _, _, _, _, _ => rfl
  | f + 1, left, gone, h, hf, hg => by
    have hne : left ≠ [] := fun e => by rw [e] at hf; simp at hf
    obtain ⟨x, w, xs, e1, hx, e2, hw, hp, ef, hF, hl⟩ := turn_ok h hne
    have e3 : Sq57.leafAt n gone left = some x := by
      unfold Sq57.leafAt
      have : ((List.range n).find? fun x => !gone.contains x && Sq57.at_ left x == 1) = (List.range n).find? fun x => decide (deg left x = 1) := by
        rw [find_head, find_head]
        congr 1
        refine List.filter_congr (fun y _ => ?_)
        rw [at_deg h.noloop]
        by_cases c : y ∈ gone
        · simp [hg y c]
        · by_cases c2 : deg left y = 1 <;> simp [c, c2]
      rw [this, find_head]
      show (ends n left).head? = _
      rw [e1]; rfl
    have e4 : (left.find? fun w => w.1 == x || w.2 == x) = some w := by
      rw [find_head]
      show (waysAt left x).head? = _
      rw [e2]; rfl
    simp only [Sq57.toRow, e3, e4, rowGo, e1, List.headD_cons, e2]
    congr 1
    have e5 : (left.filter fun v => v.1 != x && v.2 != x) = left.filter fun v => decide (v ≠ w) := by
      rw [ef]
      refine List.filter_congr (fun v _ => ?_)
      unfold hasP
      cases q1 : (v.1 == x) <;> cases q2 : (v.2 == x) <;> simp [bne, q1, q2]
    rw [e5]
    refine toRow_go f _ (x :: gone) hF (by omega) (fun y hy => ?_)
    rcases List.mem_cons.mp hy with q | q
    · subst q
      rw [ef]
      unfold deg waysAt
      rw [List.filter_filter]
      simp
    · have := hg y q
      unfold deg waysAt at this ⊢
      have hs : (((left.filter fun v => decide (v ≠ w)).filter (hasP y))).Sublist (left.filter (hasP y)) := List.Sublist.filter _ List.filter_sublist
      have := hs.length_le
      omega
theorem toRow_eq {n : Nat} {ws : List Way} (h : Forest n ws) (hl : ws.length + 1 = n) : Sq57.toRow n (n - 2) [] ws = rowOf n ws :=
  toRow_go (n - 2) ws [] h (by omega) (fun _ h => nomatch h)
theorem forest_of_spans {n : Nat} {ws : List Way} (hw : Ins n ws) (h : spansB n ws = true) : Forest n ws ∧ ws.length + 1 = n := by
  unfold spansB at h
  rw [Bool.and_eq_true] at h
  exact ⟨⟨hw, Option.isSome_iff_exists.mp h.2⟩, of_decide_eq_true h.1⟩
/-! ### the tree of a row -/
def cands (left row : List Nat) : List Nat := left.filter fun x => !row.contains x
def lesserFirst (a b : Nat) : Way := (min a b, max a b)
def treeRow : List Nat → List Nat → List Way
  | left, [] => [lesserFirst (left.getD 0 0) (left.getD 1 0)]
  | left, p :: r => let x := (cands left (p :: r)).headD 0; lesserFirst x p :: treeRow (left.erase x) r
theorem cands_ok {left row : List Nat} (nd : left.Nodup) (h : row.length < left.length) : ∃ x xs, cands left row = x :: xs ∧ x ∈ left ∧ x ∉ row := by
  cases e : cands left row with
  | nil =>
    exfalso
    have : ∀ x ∈ left, x ∈ row := fun x hx => by
      have h2 : x ∉ cands left row := by rw [e]; simp
      unfold cands at h2
      rw [List.mem_filter] at h2
      simp only [hx, true_and] at h2
      simpa using h2
    have := nodup_sub left row nd this
    omega
  | cons x xs =>
    have hx : x ∈ cands left row := by rw [e]; exact List.mem_cons_self
    have := List.mem_filter.mp hx
    exact ⟨x, xs, rfl, this.1, by simpa using this.2⟩
theorem erase_filter {n : Nat} (gone : List Nat) (x : Nat) : ((List.range n).filter fun y => !gone.contains y).erase x = (List.range n).filter fun y => !(x :: gone).contains y := by
  have nd : ((List.range n).filter fun y => !gone.contains y).Nodup := List.nodup_range.filter _
  rw [nd.erase_eq_filter, List.filter_filter]
  refine List.filter_congr (fun y _ => ?_)
  by_cases c : y = x <;> simp [c]
theorem ofRow_go {n : Nat} : ∀ (row gone : List Nat), ((List.range n).filter fun y => !gone.contains y).length = row.length + 2 → Sq57.ofRow n gone row = treeRow ((List.range n).filter fun y => !gone.contains y) row
  | [], gone, h => by
    have hs : ((List.range n).filter fun y => !gone.contains y).Pairwise (· < ·) := (pairwise_range n).filter _
    simp only [Sq57.ofRow, treeRow]
    generalize ((List.range n).filter fun y => !gone.contains y) = l at h hs
    match l, h with
    | [a, b], _ =>
      have : a < b := by simpa using hs
      simp only [List.getD_cons_zero, List.getD_cons_succ, lesserFirst]
      rw [Nat.min_eq_left (by omega), Nat.max_eq_right (by omega)]
  | p :: r, gone, h => by
    have nd : ((List.range n).filter fun y => !gone.contains y).Nodup := List.nodup_range.filter _
    obtain ⟨x, xs, e, hx, hn⟩ := cands_ok (row := p :: r) nd (by rw [h]; simp)
    have e2 : ((List.range n).find? fun x => !gone.contains x && !(p :: r).contains x) = some x := by
      rw [find_head]
      have : ((List.range n).filter fun x => !gone.contains x && !(p :: r).contains x) = cands ((List.range n).filter fun y => !gone.contains y) (p :: r) := by
        unfold cands
        rw [List.filter_filter]
        refine List.filter_congr (fun y _ => ?_)
        rw [Bool.and_comm]
      rw [this, e]; rfl
    simp only [Sq57.ofRow, e2, treeRow, e, List.headD_cons]
    have hl : ((List.range n).filter fun y => !(x :: gone).contains y).length = r.length + 2 := by
      rw [← erase_filter, List.length_erase_of_mem hx, h]
      simp
    rw [ofRow_go r (x :: gone) hl, erase_filter]
    rfl
theorem ofRow_eq {n : Nat} {row : List Nat} (h : row.length + 2 = n) : Sq57.ofRow n [] row = treeRow (List.range n) row := by
  have e : ((List.range n).filter fun y => !([] : List Nat).contains y) = List.range n := by simp
  rw [ofRow_go row [] (by rw [e]; simp [h]), e]
/-! ### in order -/
def wlt (v w : Way) : Prop := v.1 < w.1 ∨ (v.1 = w.1 ∧ v.2 < w.2)
def wle (v w : Way) : Prop := ¬ wlt w v
instance (v w : Way) : Decidable (wlt v w) := by unfold wlt; exact inferInstance
theorem wle_iff {v w : Way} : wle v w ↔ (v.1 < w.1 ∨ (v.1 = w.1 ∧ v.2 ≤ w.2)) := by unfold wle wlt; omega
theorem put_perm (w : Way) : ∀ l : List Way, (Sq57.put w l).Perm (w :: l)
  | [] => List.Perm.refl _
  | v :: l => by
    unfold Sq57.put
    split
    · exact List.Perm.refl _
    · exact ((put_perm w l).cons v).trans (List.Perm.swap w v l)
theorem put_sorted (w : Way) : ∀ l : List Way, l.Pairwise wle → (Sq57.put w l).Pairwise wle
  | [], _ => by simp [Sq57.put]
  | v :: l, h => by
    have hp := List.pairwise_cons.mp h
    unfold Sq57.put
    split
    · rename_i c
      refine List.pairwise_cons.mpr ⟨fun u hu => ?_, h⟩
      rw [wle_iff]
      rcases List.mem_cons.mp hu with e | e
      · subst e; omega
      · have := wle_iff.mp (hp.1 u e); omega
    · rename_i c
      refine List.pairwise_cons.mpr ⟨fun u hu => ?_, put_sorted w l hp.2⟩
      rcases List.mem_cons.mp ((put_perm w l).mem_iff.mp hu) with e | e
      · subst e; rw [wle_iff]; omega
      · exact hp.1 u e
theorem inOrder_go : ∀ (l m : List Way), m.Pairwise wle → (l.foldl (fun m w => Sq57.put w m) m).Pairwise wle ∧ (l.foldl (fun m w => Sq57.put w m) m).Perm (l ++ m)
  | [], _, h => ⟨h, List.Perm.refl _⟩
  | w :: l, m, h => by
    rw [List.foldl_cons]
    obtain ⟨h1, h2⟩ := inOrder_go l (Sq57.put w m) (put_sorted w m h)
    refine ⟨h1, h2.trans ?_⟩
    exact ((put_perm w m).append_left l).trans List.perm_middle
theorem sorted_unique : ∀ (s t : List Way), s.Perm t → s.Pairwise wle → t.Pairwise wle → s = t
  | [], t, p, _, _ => (List.nil_perm.mp p).symm
  | x :: s, [], p, _, _ => by have := p.length_eq; simp at this
  | x :: s, y :: t, p, hs, ht => by
    have ps := List.pairwise_cons.mp hs
    have pt := List.pairwise_cons.mp ht
    have e : x = y := by
      rcases List.mem_cons.mp (p.mem_iff.mp (List.mem_cons_self (a := x))) with q | q
      · exact q
      · rcases List.mem_cons.mp (p.mem_iff.mpr (List.mem_cons_self (a := y))) with q' | q'
        · exact q'.symm
        · have h1 := wle_iff.mp (pt.1 x q)
          have h2 := wle_iff.mp (ps.1 y q')
          exact Prod.ext (by omega) (by omega)
    subst e
    rw [sorted_unique s t (List.Perm.cons_inv p) ps.2 pt.2]
theorem inOrder_unique {l s : List Way} (p : s.Perm l) (h : s.Pairwise wle) : s = Sq57.inOrder l := by
  obtain ⟨h1, h2⟩ := inOrder_go l [] List.Pairwise.nil
  rw [List.append_nil] at h2
  exact sorted_unique _ _ (p.trans h2.symm) h h1
/-! ### shares -/
theorem frac_eq {a d : Nat} (hd : 0 < d) : Sq57.frac a d = [a / Nat.gcd d a, d / Nat.gcd d a] := by
  unfold Sq57.frac
  by_cases h : a = 0
  · subst h
    rw [if_pos rfl, Nat.gcd_zero_right]
    simp [Nat.div_self hd]
  · rw [if_neg h, Nat.gcd_comm]
end ST
end
section
namespace ST
/-! ### the calls -/
structure SOk (g : Sq57.Graph) : Prop where
  lo : 1 ≤ g.n
  hi : g.n ≤ 9
  ins : Ins g.n g.ways
  few : g.ways.length ≤ 20
theorem SOk.fresh : SOk Sq57.fresh := ⟨by decide, by decide, fun _ h => (nomatch h), by decide⟩
def pairsL : List Nat → List Way
  | a :: b :: l => (a, b) :: pairsL l
  | _ => []
def allLt (n : Nat) (l : List Nat) : Bool := l.all fun x => decide (x < n)
theorem pairs_even : ∀ l : List Nat, l.length % 2 = 0 → Sq57.pairs l = some (pairsL l)
  | [], _ => rfl
  | [_], h => by simp at h
  | a :: b :: l, h => by
    have ih := pairs_even l (by simp at h; omega)
    simp only [Sq57.pairs, ih, pairsL, Option.map_some]
theorem pairs_odd : ∀ l : List Nat, l.length % 2 = 1 → Sq57.pairs l = none
  | [], h => by simp at h
  | [_], _ => rfl
  | a :: b :: l, h => by
    have ih := pairs_odd l (by simp at h; omega)
    simp only [Sq57.pairs, ih, Option.map_none]
theorem pairsL_length : ∀ l : List Nat, (pairsL l).length = l.length / 2
  | [] => rfl
  | [_] => by simp [pairsL]
  | a :: b :: l => by
    simp only [pairsL, List.length_cons, pairsL_length l]
    omega
theorem pairsL_any (n : Nat) : ∀ l : List Nat, l.length % 2 = 0 → ((pairsL l).any fun w => decide (n ≤ w.1) || decide (n ≤ w.2)) = !allLt n l
  | [], _ => rfl
  | [_], h => by simp at h
  | a :: b :: l, h => by
    have ih := pairsL_any n l (by simp at h; omega)
    unfold allLt at ih ⊢
    simp only [pairsL, List.any_cons, ih, List.all_cons]
    by_cases h1 : a < n <;> by_cases h2 : b < n <;> simp [h1, h2, Nat.not_le.mpr, Nat.not_lt.mp] <;> omega
theorem pairsL_ins {n : Nat} : ∀ l : List Nat, allLt n l = true → Ins n (pairsL l)
  | [], _ => fun _ h => nomatch h
  | [_], _ => fun _ h => nomatch h
  | a :: b :: l, h => by
    unfold allLt at h
    simp only [List.all_cons, Bool.and_eq_true, decide_eq_true_eq] at h
    have ih := pairsL_ins l h.2.2
    intro w hw
    rcases List.mem_cons.mp hw with e | e
    · subst e; exact ⟨h.1, h.2.1⟩
    · exact ih w e
def ans (g : Sq57.Graph) (c : Sq57.Call) : List Int := (Sq57.Graph.step g c).2.value :: (Sq57.Graph.step g c).2.out
def nxt (g : Sq57.Graph) (c : Sq57.Call) : Sq57.Graph := (Sq57.Graph.step g c).1
def inL (l : List Nat) : List Int := l.map Int.ofNat
theorem begin_wrong {g : Sq57.Graph} {n : Nat} {l : List Nat} (h : ¬ (1 ≤ n ∧ n ≤ 9)) : nxt g (.begin_ n l) = g ∧ ans g (.begin_ n l) = [-1] := by
  have : n = 0 ∨ Sq57.PLACES < n := by unfold Sq57.PLACES; omega
  unfold nxt ans
  simp only [Sq57.Graph.step, if_pos this, Sq57.says, and_self]
theorem begin_odd {g : Sq57.Graph} {n : Nat} {l : List Nat} (h : 1 ≤ n ∧ n ≤ 9) (ho : l.length % 2 = 1) : nxt g (.begin_ n l) = g ∧ ans g (.begin_ n l) = [-3] := by
  have : ¬ (n = 0 ∨ Sq57.PLACES < n) := by unfold Sq57.PLACES; omega
  unfold nxt ans
  simp only [Sq57.Graph.step, if_neg this, pairs_odd l ho, Sq57.says, and_self]
theorem begin_bad {g : Sq57.Graph} {n : Nat} {l : List Nat} (h : 1 ≤ n ∧ n ≤ 9) (ho : l.length % 2 = 0) (hb : 20 < (pairsL l).length ∨ allLt n l = false) : nxt g (.begin_ n l) = g ∧ ans g (.begin_ n l) = [-1] := by
  have h1 : ¬ (n = 0 ∨ Sq57.PLACES < n) := by unfold Sq57.PLACES; omega
  have h2 : Sq57.WAYS < (pairsL l).length ∨ ((pairsL l).any fun w => decide (n ≤ w.1) || decide (n ≤ w.2)) = true := by
    rw [pairsL_any n l ho]
    rcases hb with hb | hb
    · exact .inl hb
    · right; rw [hb]; rfl
  unfold nxt ans
  simp only [Sq57.Graph.step, if_neg h1, pairs_even l ho, if_pos h2, Sq57.says, and_self]
theorem begin_good {g : Sq57.Graph} {n : Nat} {l : List Nat} (h : 1 ≤ n ∧ n ≤ 9) (ho : l.length % 2 = 0) (hb : ¬ 20 < (pairsL l).length) (ha : allLt n l = true) : nxt g (.begin_ n l) = ⟨n, pairsL l⟩ ∧ ans g (.begin_ n l) = [((pairsL l).length : Int)] := by
  have h1 : ¬ (n = 0 ∨ Sq57.PLACES < n) := by unfold Sq57.PLACES; omega
  have h2 : ¬ (Sq57.WAYS < (pairsL l).length ∨ ((pairsL l).any fun w => decide (n ≤ w.1) || decide (n ≤ w.2)) = true) := by
    rw [pairsL_any n l ho, ha]
    rintro (z | z)
    · exact hb z
    · cases z
  unfold nxt ans
  simp only [Sq57.Graph.step, if_neg h1, pairs_even l ho, if_neg h2, Sq57.says, and_self]
theorem begin_ok {n : Nat} {l : List Nat} (h : 1 ≤ n ∧ n ≤ 9) (hb : ¬ 20 < (pairsL l).length) (ha : allLt n l = true) : SOk ⟨n, pairsL l⟩ := ⟨h.1, h.2, pairsL_ins l ha, by simp only; omega⟩
def many (g : Sq57.Graph) : Nat := manyWith g.n g.ways [] 0
theorem SOk.count {g : Sq57.Graph} (h : SOk g) : g.count = many g := count_many h.lo h.ins
theorem SOk.fuel {g : Sq57.Graph} (h : SOk g) : g.ways.length < Sq57.FUEL := by have := h.few; unfold Sq57.FUEL; omega
theorem SOk.make {g : Sq57.Graph} (h : SOk g) {k : Nat} (hk : k < many g) : g.make k = some (treeOf g.n g.ways k) := (make_tree h.lo h.ins h.fuel).1 hk
theorem SOk.makeN {g : Sq57.Graph} (h : SOk g) {k : Nat} (hk : ¬ k < many g) : g.make k = none := (make_tree h.lo h.ins h.fuel).2 hk
theorem ans_count {g : Sq57.Graph} (h : SOk g) : ans g .count = [(many g : Int)] := by
  unfold ans
  simp only [Sq57.Graph.step, Sq57.says, h.count]
theorem ans_make {g : Sq57.Graph} (h : SOk g) {k : Nat} (hk : k < many g) : ans g (.make k) = (many g : Int) :: inL (treeOf g.n g.ways k) := by
  unfold ans
  simp only [Sq57.Graph.step, h.make hk, h.count]
  rfl
theorem ans_makeN {g : Sq57.Graph} (h : SOk g) {k : Nat} (hk : ¬ k < many g) : ans g (.make k) = [-3] := by
  unfold ans
  simp only [Sq57.Graph.step, h.makeN hk, Sq57.says]
theorem SOk.spans {g : Sq57.Graph} (h : SOk g) (t : List Nat) : Sq57.spans g t = isTreeB g.n g.ways t := spans_eq h.ins t
theorem ans_numberN {g : Sq57.Graph} (h : SOk g) {t : List Nat} (ht : isTreeB g.n g.ways t = false) : ans g (.number t) = [-3] := by
  unfold ans
  simp only [Sq57.Graph.step, h.spans, ht, if_true, Sq57.says]
theorem ans_number {g : Sq57.Graph} (h : SOk g) {t : List Nat} (ht : isTreeB g.n g.ways t = true) : ans g (.number t) = [(numberOf g.n g.ways t : Int)] := by
  unfold ans
  have := (number_tree h.lo h.ins h.fuel ht).1
  have e : g.number t = numberOf g.n g.ways t := this
  simp only [Sq57.Graph.step, h.spans, ht, Sq57.says, e]
  rfl
theorem number_lt {g : Sq57.Graph} (h : SOk g) {t : List Nat} (ht : isTreeB g.n g.ways t = true) : numberOf g.n g.ways t < many g := (number_tree h.lo h.ins h.fuel ht).2
theorem ans_nextN {g : Sq57.Graph} (h : SOk g) {t : List Nat} (ht : isTreeB g.n g.ways t = false) : ans g (.next t) = [-3] := by
  unfold ans
  simp only [Sq57.Graph.step, h.spans, ht, if_true, Sq57.says]
theorem ans_nextL {g : Sq57.Graph} (h : SOk g) {t : List Nat} (ht : isTreeB g.n g.ways t = true) (hk : numberOf g.n g.ways t + 1 = many g) : ans g (.next t) = [-6] := by
  unfold ans
  have e : g.number t = numberOf g.n g.ways t := (number_tree h.lo h.ins h.fuel ht).1
  have e2 : g.make (numberOf g.n g.ways t + 1) = none := h.makeN (by omega)
  simp only [Sq57.Graph.step, h.spans, ht, e, e2, Sq57.says]
  rfl
theorem ans_next {g : Sq57.Graph} (h : SOk g) {t : List Nat} (ht : isTreeB g.n g.ways t = true) (hk : numberOf g.n g.ways t + 1 ≠ many g) :
    ans g (.next t) = ((numberOf g.n g.ways t + 1 : Nat) : Int) :: inL (treeOf g.n g.ways (numberOf g.n g.ways t + 1)) := by
  unfold ans
  have e : g.number t = numberOf g.n g.ways t := (number_tree h.lo h.ins h.fuel ht).1
  have := number_lt h ht
  have e2 : g.make (numberOf g.n g.ways t + 1) = some (treeOf g.n g.ways (numberOf g.n g.ways t + 1)) := h.make (by omega)
  simp only [Sq57.Graph.step, h.spans, ht, e, e2]
  rfl
theorem ans_listN {g : Sq57.Graph} (h : SOk g) (hm : 100 < many g) : ans g .list = [-5] := by
  unfold ans
  have : Sq57.LISTED < g.count := by rw [h.count]; exact hm
  simp only [Sq57.Graph.step, if_pos this, Sq57.says]
theorem ans_list {g : Sq57.Graph} (h : SOk g) (hm : ¬ 100 < many g) : ans g .list = (many g : Int) :: (List.range (many g)).flatMap fun k => inL (treeOf g.n g.ways k) := by
  unfold ans
  have : ¬ Sq57.LISTED < g.count := by rw [h.count]; exact hm
  simp only [Sq57.Graph.step, if_neg this]
  rw [h.count]
  congr 1
  unfold Sq57.ints
  rw [List.map_flatMap]
  have : ∀ l : List Nat, (∀ k ∈ l, k < many g) → (l.flatMap fun a => ((g.make a).getD []).map Int.ofNat) = l.flatMap fun k => inL (treeOf g.n g.ways k) := by
    intro l
    induction l with
    | nil => intro _; rfl
    | cons k l ih =>
      intro hk
      rw [List.flatMap_cons, List.flatMap_cons, ih (fun j hj => hk j (List.mem_cons_of_mem _ hj)), h.make (hk k List.mem_cons_self)]
      rfl
  exact this _ (fun k hk => by simpa using hk)
theorem ans_shareW {g : Sq57.Graph} {i : Nat} (hi : g.ways.length ≤ i) : ans g (.share i) = [-2] := by
  unfold ans
  simp only [Sq57.Graph.step, if_pos hi, Sq57.says]
theorem ans_shareT {g : Sq57.Graph} (h : SOk g) {i : Nat} (hi : ¬ g.ways.length ≤ i) (hm : many g = 0) : ans g (.share i) = [-4] := by
  unfold ans
  have : g.count = 0 := by rw [h.count]; exact hm
  simp only [Sq57.Graph.step, if_neg hi, if_pos this, Sq57.says]
/-- a way that leads from a group to itself counts nothing -/
theorem TT_loop {β : Type} [DecidableEq β] : ∀ (l : List Way) (i k : Nat) (s : Nat → β) (w : Way), l[i]? = some w → s w.1 = s w.2 → TT k l s = TT k (l.eraseIdx i) s
  | [], _, _, _, _, h, _ => by simp at h
  | v :: l, 0, k, s, w, h, e => by
    have hv : v = w := by simpa using h
    subst hv
    show TT k l s + (if s v.1 = s v.2 then 0 else TT (k - 1) l (mg s v.1 v.2)) = TT k l s
    rw [if_pos e, Nat.add_zero]
  | v :: l, i + 1, k, s, w, h, e => by
    have h' : l[i]? = some w := by simpa using h
    show TT k l s + (if s v.1 = s v.2 then 0 else TT (k - 1) l (mg s v.1 v.2)) = TT k (l.eraseIdx i) s + (if s v.1 = s v.2 then 0 else TT (k - 1) (l.eraseIdx i) (mg s v.1 v.2))
    rw [TT_loop l i k s w h' e, TT_loop l i (k - 1) (mg s v.1 v.2) w h' (by unfold mg; rw [e])]
theorem with_eq {g : Sq57.Graph} (h : SOk g) {i : Nat} (hi : i < g.ways.length) : g.with_ i = manyWith g.n g.ways [i] 0 := by
  have e : g.ways[i]? = some g.ways[i] := List.getElem?_eq_getElem hi
  have ew : g.ways.getD i (0, 0) = g.ways[i] := by rw [List.getD_eq_getElem?_getD, e]; rfl
  have iw := h.ins _ (List.getElem_mem hi)
  unfold Sq57.Graph.with_ manyWith
  have e2 : someWays g.ways [i] = [g.ways[i]] := by simp only [someWays, List.map_cons, List.map_nil, ew]
  rw [e, e2]
  simp only [mergedBy, cls_range iw.1, cls_range iw.2, List.length_cons, List.length_nil]
  by_cases c : g.ways[i].1 = g.ways[i].2
  · rw [if_pos c, if_pos c]
  · rw [if_neg c, if_neg c]
    have G := GOk.range g.n
    have c' : cls (List.range g.n) g.ways[i].1 ≠ cls (List.range g.n) g.ways[i].2 := by rw [cls_range iw.1, cls_range iw.2]; exact c
    have T2 := (Lab.first g.n).next G iw.1 iw.2 c'
    have k2 := G.two iw.1 iw.2 c'
    have he : Ins g.n (g.ways.eraseIdx i) := fun w hw => h.ins w (List.mem_of_mem_eraseIdx hw)
    rw [joined_onto, count_TT (by omega) (he.onto T2.lt), TT_onto]
    show _ = TT (g.n - 1) g.ways (cls (merged (List.range g.n) g.ways[i].1 g.ways[i].2))
    rw [TT_loop g.ways i _ _ _ e (by rw [merged_ker G c' iw.1 iw.2, mg_iff]; exact .inr (.inl ⟨rfl, rfl⟩))]
    exact TT_ker (fun x => x < g.n) _ _ _ _ he T2.ker
theorem ans_share {g : Sq57.Graph} (h : SOk g) {i : Nat} (hi : i < g.ways.length) (hm : many g ≠ 0) :
    ans g (.share i) = [(manyWith g.n g.ways [i] 0 : Int), (manyWith g.n g.ways [i] 0 / Nat.gcd (many g) (manyWith g.n g.ways [i] 0) : Nat), (many g / Nat.gcd (many g) (manyWith g.n g.ways [i] 0) : Nat)] := by
  unfold ans
  have h1 : ¬ g.ways.length ≤ i := by omega
  have h2 : ¬ g.count = 0 := by rw [h.count]; exact hm
  simp only [Sq57.Graph.step, if_neg h1, if_neg h2]
  rw [with_eq h hi, h.count, frac_eq (by omega)]
  rfl
theorem ans_toRowO {g : Sq57.Graph} {n : Nat} {l : List Nat} (h : l.length % 2 = 1) : ans g (.toRow n l) = [-3] := by
  unfold ans
  simp only [Sq57.Graph.step, pairs_odd l h, Sq57.says]
theorem ans_toRowW {g : Sq57.Graph} {n : Nat} {l : List Nat} (h : l.length % 2 = 0) (hb : ¬ (2 ≤ n ∧ n ≤ 9) ∨ allLt n l = false) : ans g (.toRow n l) = [-1] := by
  unfold ans
  have h2 : n < 2 ∨ Sq57.PLACES < n ∨ ((pairsL l).any fun w => decide (n ≤ w.1) || decide (n ≤ w.2)) = true := by
    rw [pairsL_any n l h]
    unfold Sq57.PLACES
    rcases hb with hb | hb
    · omega
    · right; right; rw [hb]; rfl
  simp only [Sq57.Graph.step, pairs_even l h, if_pos h2, Sq57.says]
theorem toRow_ifs {n : Nat} {l : List Nat} (h : l.length % 2 = 0) (hn : 2 ≤ n ∧ n ≤ 9) (ha : allLt n l = true) : ¬ (n < 2 ∨ Sq57.PLACES < n ∨ ((pairsL l).any fun w => decide (n ≤ w.1) || decide (n ≤ w.2)) = true) := by
  rw [pairsL_any n l h, ha]
  unfold Sq57.PLACES
  rintro (z | z | z)
  · omega
  · omega
  · cases z
theorem ans_toRowN {g : Sq57.Graph} {n : Nat} {l : List Nat} (h : l.length % 2 = 0) (hn : 2 ≤ n ∧ n ≤ 9) (ha : allLt n l = true) (hs : spansB n (pairsL l) = false) : ans g (.toRow n l) = [-4] := by
  unfold ans
  simp only [Sq57.Graph.step, pairs_even l h, if_neg (toRow_ifs h hn ha), spans_range (pairsL_ins l ha), hs, if_true, Sq57.says]
theorem ans_toRow {g : Sq57.Graph} {n : Nat} {l : List Nat} (h : l.length % 2 = 0) (hn : 2 ≤ n ∧ n ≤ 9) (ha : allLt n l = true) (hs : spansB n (pairsL l) = true) : ans g (.toRow n l) = ((n : Int) - 2) :: inL (rowOf n (pairsL l)) := by
  unfold ans
  obtain ⟨hF, hl⟩ := forest_of_spans (pairsL_ins l ha) hs
  simp only [Sq57.Graph.step, pairs_even l h, if_neg (toRow_ifs h hn ha), spans_range (pairsL_ins l ha), hs, toRow_eq hF hl]
  rfl
theorem ofRow_if {n : Nat} {l : List Nat} : (n < 2 ∨ Sq57.PLACES < n ∨ (l.any fun x => decide (n ≤ x)) = true) ↔ (¬ (2 ≤ n ∧ n ≤ 9) ∨ allLt n l = false) := by
  have e : (l.any fun x => decide (n ≤ x)) = !allLt n l := by
    unfold allLt
    induction l with
    | nil => rfl
    | cons a l ih =>
      rw [List.any_cons, List.all_cons, ih]
      by_cases h1 : a < n <;> simp [h1] <;> omega
  rw [e]
  unfold Sq57.PLACES
  constructor
  · rintro (z | z | z)
    · left; omega
    · left; omega
    · right; cases q : allLt n l with
      | true => rw [q] at z; cases z
      | false => rfl
  · rintro (z | z)
    · omega
    · right; right; rw [z]; rfl
theorem ans_ofRowW {g : Sq57.Graph} {n : Nat} {l : List Nat} (hb : ¬ (2 ≤ n ∧ n ≤ 9) ∨ allLt n l = false) : ans g (.ofRow n l) = [-1] := by
  unfold ans
  simp only [Sq57.Graph.step, if_pos (ofRow_if.mpr hb), Sq57.says]
theorem ans_ofRowN {g : Sq57.Graph} {n : Nat} {l : List Nat} (hn : 2 ≤ n ∧ n ≤ 9) (ha : allLt n l = true) (hl : l.length + 2 ≠ n) : ans g (.ofRow n l) = [-3] := by
  unfold ans
  have : ¬ (¬ (2 ≤ n ∧ n ≤ 9) ∨ allLt n l = false) := by rw [ha]; simp; omega
  simp only [Sq57.Graph.step, if_neg (fun z => this (ofRow_if.mp z)), if_pos hl, Sq57.says]
theorem ans_ofRow {g : Sq57.Graph} {n : Nat} {l : List Nat} (hn : 2 ≤ n ∧ n ≤ 9) (ha : allLt n l = true) (hl : l.length + 2 = n) :
    ans g (.ofRow n l) = ((n : Int) - 1) :: inL ((Sq57.inOrder (treeRow (List.range n) l)).flatMap fun w => [w.1, w.2]) := by
  unfold ans
  have : ¬ (¬ (2 ≤ n ∧ n ≤ 9) ∨ allLt n l = false) := by rw [ha]; simp; omega
  have h2 : ¬ (l.length + 2 ≠ n) := by omega
  simp only [Sq57.Graph.step, if_neg (fun z => this (ofRow_if.mp z)), if_neg h2, ofRow_eq hl]
  rfl
theorem nxt_same (g : Sq57.Graph) (c : Sq57.Call) (h : ∀ n l, c ≠ .begin_ n l) : nxt g c = g := by
  unfold nxt
  cases c with
  | begin_ n l => exact absurd rfl (h n l)
  | count => rfl
  | make k => simp only [Sq57.Graph.step]; split <;> rfl
  | number t => simp only [Sq57.Graph.step]; split <;> rfl
  | next t => simp only [Sq57.Graph.step]; split <;> (try split) <;> rfl
  | list => simp only [Sq57.Graph.step]; split <;> rfl
  | share i => simp only [Sq57.Graph.step]; split <;> (try split) <;> rfl
  | toRow n l => simp only [Sq57.Graph.step]; repeat' split
                 all_goals rfl
  | ofRow n l => simp only [Sq57.Graph.step]; repeat' split
                 all_goals rfl
end ST
end
section
namespace ST
/-! ### the calls' list -/
def numN (p : Nat) : Nat := if p = 1 ∨ p = 3 ∨ p = 7 ∨ p = 8 ∨ p = 9 then 1 else 0
def withRow (p : Nat) : Bool := decide (p = 1 ∨ p = 4 ∨ p = 5 ∨ p = 8 ∨ p = 9)
def callN (p : Nat) (nums row : List Nat) : Sq57.Call :=
  if p = 1 then .begin_ (nums.getD 0 0) row else if p = 2 then .count else if p = 3 then .make (nums.getD 0 0) else if p = 4 then .number row else if p = 5 then .next row
  else if p = 6 then .list else if p = 7 then .share (nums.getD 0 0) else if p = 8 then .toRow (nums.getD 0 0) row else .ofRow (nums.getD 0 0) row
theorem toNat_inL (l : List Nat) : (inL l).map Int.toNat = l := by
  unfold inL
  rw [List.map_map]
  have : (Int.toNat ∘ Int.ofNat) = id := by funext x; rfl
  rw [this, List.map_id]
theorem whole_id (c : List (List Int)) : PySq57.whole c = c := by
  unfold PySq57.whole
  split <;> rfl
theorem row_form {r : List Nat} {x t : List Int} (h : PyFlat.row (inL r) = some (x, t)) : ∃ row rest, r = row.length :: (row ++ rest) ∧ x = inL row ∧ t = inL rest := by
  cases r with
  | nil => cases h
  | cons n r =>
    have h' : (if 0 ≤ (Int.ofNat n) ∧ (Int.ofNat n).toNat ≤ (inL r).length then some ((inL r).take (Int.ofNat n).toNat, (inL r).drop (Int.ofNat n).toNat) else none) = some (x, t) := h
    by_cases c : 0 ≤ (Int.ofNat n) ∧ (Int.ofNat n).toNat ≤ (inL r).length
    · rw [if_pos c] at h'
      have e1 : (Int.ofNat n).toNat = n := rfl
      have hl : n ≤ r.length := by
        have := c.2
        rw [e1] at this
        simpa [inL] using this
      rw [e1] at h'
      injection h' with h'
      injection h' with ha hb
      refine ⟨r.take n, r.drop n, ?_, ?_, ?_⟩
      · rw [List.take_append_drop, List.length_take, Nat.min_eq_left hl]
      · rw [← ha]; simp [inL, List.map_take]
      · rw [← hb]; simp [inL, List.map_drop]
    · rw [if_neg c] at h'; cases h'
theorem shape_nat (p : Nat) : PySq57.shape (Int.ofNat p) = if 1 ≤ p ∧ p ≤ 9 then some (numN p, if withRow p = true then 1 else 0) else none := by
  by_cases h : 1 ≤ p ∧ p ≤ 9
  · rw [if_pos h]
    have : p = 1 ∨ p = 2 ∨ p = 3 ∨ p = 4 ∨ p = 5 ∨ p = 6 ∨ p = 7 ∨ p = 8 ∨ p = 9 := by omega
    rcases this with h | h | h | h | h | h | h | h | h <;> subst h <;> rfl
  · rw [if_neg h]
    unfold PySq57.shape
    have e : ∀ k : Int, 1 ≤ k → k ≤ 9 → Int.ofNat p ≠ k := fun k h1 h2 z => by
      have z' : (p : Int) = k := z
      omega
    rw [if_neg (e 1 (by decide) (by decide)), if_neg (e 2 (by decide) (by decide)), if_neg (e 3 (by decide) (by decide)), if_neg (e 4 (by decide) (by decide)), if_neg (e 5 (by decide) (by decide)), if_neg (e 6 (by decide) (by decide)), if_neg (e 7 (by decide) (by decide)), if_neg (e 8 (by decide) (by decide)), if_neg (e 9 (by decide) (by decide))]
/-- a call as it lies in the list: its number, its numbers, its row with its length ahead -/
def flat (p : Nat) (nums row : List Nat) : List Nat := p :: nums ++ (if withRow p = true then row.length :: row else [])
theorem call_form {p : Nat} {r : List Nat} {c : List (List Int)} {t : List Int} (h : PyFlat.call PySq57.shape (inL (p :: r)) = some (c, t)) :
    ∃ nums row rest, 1 ≤ p ∧ p ≤ 9 ∧ nums.length = numN p ∧ (withRow p = false → row = []) ∧ p :: r = flat p nums row ++ rest ∧ t = inL rest ∧ c = inL (p :: nums) :: (if withRow p = true then [inL row] else []) := by
  have h' : (match PySq57.shape (Int.ofNat p) with
    | none => none
    | some (n, k) => if (inL r).length < n then none else match PyFlat.rows k ((inL r).drop n) with
      | none => none
      | some (xs, t) => some ((Int.ofNat p :: (inL r).take n) :: xs, t)) = some (c, t) := h
  rw [shape_nat] at h'
  by_cases hp : 1 ≤ p ∧ p ≤ 9
  · rw [if_pos hp] at h'
    simp only at h'
    by_cases hl : (inL r).length < numN p
    · rw [if_pos hl] at h'; cases h'
    · rw [if_neg hl] at h'
      have hl' : numN p ≤ r.length := by simpa [inL] using hl
      have ed : (inL r).drop (numN p) = inL (r.drop (numN p)) := by simp [inL, List.map_drop]
      have et : (inL r).take (numN p) = inL (r.take (numN p)) := by simp [inL, List.map_take]
      rw [ed, et] at h'
      by_cases hw : withRow p = true
      · rw [if_pos hw] at h'
        have e1 : PyFlat.rows 1 (inL (r.drop (numN p))) = match PyFlat.row (inL (r.drop (numN p))) with
          | none => none
          | some (x, s) => some ([x], s) := by
          simp only [PyFlat.rows]
          cases PyFlat.row (inL (r.drop (numN p))) with
          | none => rfl
          | some q => rfl
        rw [e1] at h'
        cases q : PyFlat.row (inL (r.drop (numN p))) with
        | none => rw [q] at h'; cases h'
        | some xt =>
          obtain ⟨x, s⟩ := xt
          rw [q] at h'
          simp only [Option.some.injEq, Prod.mk.injEq] at h'
          obtain ⟨row, rest, e2, e3, e4⟩ := row_form q
          refine ⟨r.take (numN p), row, rest, hp.1, hp.2, (by simp [hl']), (fun z => by rw [hw] at z; cases z), ?_, ?_, ?_⟩
          · have e5 : r = r.take (numN p) ++ r.drop (numN p) := (List.take_append_drop _ _).symm
            unfold flat
            rw [if_pos hw]
            conv => lhs; rw [e5, e2]
            simp
          · rw [← h'.2, e4]
          · rw [if_pos hw, ← h'.1, e3]; rfl
      · rw [if_neg hw] at h'
        simp only [PyFlat.rows, Option.some.injEq, Prod.mk.injEq] at h'
        refine ⟨r.take (numN p), [], r.drop (numN p), hp.1, hp.2, (by simp [hl']), (fun _ => rfl), ?_, h'.2.symm, ?_⟩
        · unfold flat
          rw [if_neg hw, List.append_nil, List.cons_append, List.take_append_drop]
        · rw [if_neg hw, ← h'.1]; rfl
  · rw [if_neg hp] at h'; cases h'
theorem len_one {l : List Nat} (h : l.length = 1) : l = [l.getD 0 0] := by
  match l, h with
  | [x], _ => rfl
theorem len_zero {l : List Nat} (h : l.length = 0) : l = [] := List.length_eq_zero_iff.mp h
theorem step_of (g : Sq57.Graph) {c : List (List Int)} {x : Sq57.Call} (h : Sq57Neutral.callOf c = some x) : Sq57Neutral.step g c = (nxt g x, ans g x) := by
  unfold Sq57Neutral.step
  rw [h]
  rfl
theorem step_call (g : Sq57.Graph) {p : Nat} {nums row : List Nat} (h1 : 1 ≤ p) (h9 : p ≤ 9) (hl : nums.length = numN p) :
    Sq57Neutral.step g (PySq57.whole (inL (p :: nums) :: (if withRow p = true then [inL row] else []))) = (nxt g (callN p nums row), ans g (callN p nums row)) := by
  rw [whole_id]
  refine step_of g ?_
  have hr : (inL row).map (fun z : Int => z.toNat) = row := toNat_inL row
  have : p = 1 ∨ p = 2 ∨ p = 3 ∨ p = 4 ∨ p = 5 ∨ p = 6 ∨ p = 7 ∨ p = 8 ∨ p = 9 := by omega
  rcases this with h | h | h | h | h | h | h | h | h <;> subst h
  · rw [len_one hl]
    show some (Sq57.Call.begin_ (nums.getD 0 0) ((inL row).map (fun z : Int => z.toNat))) = _
    rw [hr]; rfl
  · rw [len_zero hl]; rfl
  · rw [len_one hl]; rfl
  · rw [len_zero hl]
    show some (Sq57.Call.number ((inL row).map (fun z : Int => z.toNat))) = _
    rw [hr]; rfl
  · rw [len_zero hl]
    show some (Sq57.Call.next ((inL row).map (fun z : Int => z.toNat))) = _
    rw [hr]; rfl
  · rw [len_zero hl]; rfl
  · rw [len_one hl]; rfl
  · rw [len_one hl]
    show some (Sq57.Call.toRow (nums.getD 0 0) ((inL row).map (fun z : Int => z.toNat))) = _
    rw [hr]; rfl
  · rw [len_one hl]
    show some (Sq57.Call.ofRow (nums.getD 0 0) ((inL row).map (fun z : Int => z.toNat))) = _
    rw [hr]; rfl
theorem calls_cons {f : Nat} {p : Nat} {r : List Nat} {raw : List (List (List Int))} (h : PyFlat.calls PySq57.shape f (inL (p :: r)) = some raw) :
    ∃ f' c t raw', f = f' + 1 ∧ raw = c :: raw' ∧ PyFlat.call PySq57.shape (inL (p :: r)) = some (c, t) ∧ PyFlat.calls PySq57.shape f' t = some raw' := by
  cases f with
  | zero => cases h
  | succ f =>
    have h' : (match PyFlat.call PySq57.shape (inL (p :: r)) with
      | none => none
      | some (c, t) => match PyFlat.calls PySq57.shape f t with
        | none => none
        | some cs => some (c :: cs)) = some raw := h
    cases e : PyFlat.call PySq57.shape (inL (p :: r)) with
    | none => rw [e] at h'; cases h'
    | some q =>
      obtain ⟨c, t⟩ := q
      rw [e] at h'
      simp only at h'
      cases e2 : PyFlat.calls PySq57.shape f t with
      | none => rw [e2] at h'; cases h'
      | some cs =>
        rw [e2] at h'
        simp only [Option.some.injEq] at h'
        exact ⟨f, c, t, cs, rfl, h'.symm, rfl, e2⟩
/-- what is still to be answered -/
def due (g : Sq57.Graph) (raw : List (List (List Int))) : List Int := PyFlat.told (PyFlat.played Sq57Neutral.step g (raw.map PySq57.whole))
theorem due_nil (g : Sq57.Graph) : due g [] = [] := rfl
theorem due_cons (g : Sq57.Graph) {p : Nat} {nums row : List Nat} (h1 : 1 ≤ p) (h9 : p ≤ 9) (hl : nums.length = numN p) (raw : List (List (List Int))) :
    due g ((inL (p :: nums) :: (if withRow p = true then [inL row] else [])) :: raw) = ((ans g (callN p nums row)).length : Int) :: ans g (callN p nums row) ++ due (nxt g (callN p nums row)) raw := by
  unfold due
  rw [List.map_cons]
  show PyFlat.told ((Sq57Neutral.step g _).2 :: PyFlat.played Sq57Neutral.step (Sq57Neutral.step g _).1 _) = _
  rw [step_call g h1 h9 hl]
  rfl
theorem answers_due {l : List Int} (h : PySq57.answers_asked l = true) : ∃ raw, PyFlat.calls PySq57.shape l.length l = some raw ∧ PySq57.answers l = due Sq57.fresh raw ∧ (due Sq57.fresh raw).length ≤ 10000000 := by
  unfold PySq57.answers_asked at h
  cases e : PyFlat.calls PySq57.shape l.length l with
  | none => rw [e] at h; cases h
  | some raw =>
    rw [e] at h
    have ea : PySq57.answers l = due Sq57.fresh raw := by
      unfold PySq57.answers PySq57.calls
      rw [e]
      rfl
    simp only [Bool.and_eq_true] at h
    have := h.2
    unfold PyFlat.short at this
    rw [ea] at this
    exact ⟨raw, rfl, ea, of_decide_eq_true this⟩
theorem begin_step {g : Sq57.Graph} (h : SOk g) (c : Sq57.Call) : SOk (nxt g c) := by
  by_cases hc : ∃ n l, c = .begin_ n l
  · obtain ⟨n, l, rfl⟩ := hc
    by_cases h1 : 1 ≤ n ∧ n ≤ 9
    · rcases Nat.mod_two_eq_zero_or_one l.length with ho | ho
      · by_cases hb : 20 < (pairsL l).length
        · rw [(begin_bad h1 ho (.inl hb)).1]; exact h
        · cases ha : allLt n l with
          | false => rw [(begin_bad h1 ho (.inr ha)).1]; exact h
          | true => rw [(begin_good h1 ho hb ha).1]; exact begin_ok h1 hb ha
      · rw [(begin_odd h1 ho).1]; exact h
    · rw [(begin_wrong h1).1]; exact h
  · rw [nxt_same g c (fun n l e => hc ⟨n, l, e⟩)]; exact h
end ST
end
section
set_option Elab.async false
set_option linter.all false
set_option maxRecDepth 100000
set_option maxHeartbeats 2000000
namespace BD
open PySem PySem.Spec PyProof.Rows L2

/-! ### keys that are truth values -/
def isB (b : Bool) (v : Value) : Bool := match v with
  | .bool c => b == c
  | _ => false
theorem isB_shape {b : Bool} {v : Value} (h : isB b v = true) : v = .bool b := by
  cases v <;> first | exact absurd h Bool.false_ne_true | skip
  rename_i c
  have e : b = c := by simpa [isB] using h
  rw [e]
theorem isB_leaf {b : Bool} {v : Value} (h : isB b v = true) : Leaf.isOf (.num (if b = true then 1 else 0)) v = true := by
  rw [isB_shape h]
  cases b <;> rfl
def boolKind (prog : Program) (w : World) : PySem.KeyKind prog w Bool where
  is := isB
  hash := fun b => (leafKind prog w).hash (.num (if b = true then 1 else 0))
  inj := fun v a b ha hb => by
    have h1 := isB_shape ha
    have h2 := isB_shape hb
    rw [h1] at h2
    injection h2
  byValue := fun _ v hv => by
    obtain rfl := isB_shape hv
    rfl
  pyHash := fun hv h => (leafKind prog w).pyHash (isB_leaf hv) h
  eqBool := fun {A E s a b x y Q} hx hy h => by
    obtain rfl := isB_shape hx
    obtain rfl := isB_shape hy
    refine SeqAt.EqAt.bool_bool a b _ _ _ _ ?_
    rw [Bool.beq_eq_decide_eq]
    exact h
  «strs» := fun k x t v h => by cases isB_shape h

abbrev Ent := ST.BK × Addr × Int
section
variable (P : Program) (w : World)
def Raw (a : Addr) (es : List Ent) (h : Heap) : Prop := es.length ≤ sizeLine ∧ (a == sysModules) = false ∧
  ∃ xs : List (ST.BK × Addr × Value), Paired (fun (p : Ent) (q : ST.BK × Addr × Value) => p.1 = q.1 ∧ p.2.1 = q.2.1 ∧ RelV (.int p.2.2) q.2.2) es xs ∧
    ∃ o e ep, h.get? a = some o ∧ o.ExactDict ∧ o.data = .dict e ep ∧ e.toList = xs.map (entryOfKey (tupleKind (boolKind P w))) ∧ (xs.map (·.1)).Nodup
def D (a : Addr) (es : List Ent) : HO := .ext (Raw P w a es)
end
def KeysAt (H : Hp) (es : List Ent) : Prop := ∀ e ∈ es, H e.2.1 = some (.tup (e.1.map V.bl))
def strip (es : List Ent) : List (ST.BK × Int) := es.map fun e => (e.1, e.2.2)
def putB (es : List Ent) (k : ST.BK) (b : Addr) (z : Int) : List Ent := match es with
  | [] => [(k, b, z)]
  | p :: r => if p.1 = k then (p.1, p.2.1, z) :: r else p :: putB r k b z
theorem strip_put (k : ST.BK) (b : Addr) (z : Int) : ∀ es : List Ent, strip (putB es k b z) = ST.put (strip es) k z
  | [] => rfl
  | p :: r => by
    unfold putB
    show _ = ST.put ((p.1, p.2.2) :: strip r) k z
    unfold ST.put
    by_cases h : p.1 = k
    · rw [if_pos h, if_pos h]; rfl
    · rw [if_neg h, if_neg h]
      show (p.1, p.2.2) :: strip (putB r k b z) = _
      rw [strip_put k b z r]
theorem keysAt_put {H : Hp} {k : ST.BK} {b : Addr} {z : Int} (hb : H b = some (.tup (k.map V.bl))) : ∀ {es : List Ent}, KeysAt H es → KeysAt H (putB es k b z)
  | [], _ => fun e he => by
    have q : e = (k, b, z) := by simpa [putB] using he
    subst q; exact hb
  | p :: r, h => fun e he => by
    have hr : KeysAt H r := fun x hx => h x (List.mem_cons_of_mem _ hx)
    unfold putB at he
    by_cases c : p.1 = k
    · rw [if_pos c] at he
      rcases List.mem_cons.mp he with q | q
      · subst q; exact h p List.mem_cons_self
      · exact hr e q
    · rw [if_neg c] at he
      rcases List.mem_cons.mp he with q | q
      · subst q; exact h e List.mem_cons_self
      · exact keysAt_put hb hr e q
theorem KeysAt.keeps {H H' : Hp} {es : List Ent} (h : KeysAt H es) (ht : ∀ b xs, H b = some (.tup xs) → H' b = some (.tup xs)) : KeysAt H' es := fun e he => ht _ _ (h e he)
theorem put_len (k : ST.BK) (b : Addr) (z : Int) : ∀ es : List Ent, (putB es k b z).length ≤ es.length + 1
  | [] => by simp [putB]
  | p :: r => by
    unfold putB
    have := put_len k b z r
    split <;> simp <;> omega

section
variable {P : Program} {w : World} {H : Hp} {h h' : Heap} {a b : Addr} {es : List Ent}
abbrev Rel : List Ent → List (ST.BK × Addr × Value) → Prop := Paired fun p q => p.1 = q.1 ∧ p.2.1 = q.2.1 ∧ RelV (.int p.2.2) q.2.2
theorem Raw.stay (x : Raw P w a es h) (k : ∀ o, h.get? a = some o → h'.get? a = some o) : Raw P w a es h' := by
  obtain ⟨z, y, xs, r, o, e, ep, h1, h2⟩ := x
  exact ⟨z, y, xs, r, o, e, ep, k o h1, h2⟩
theorem ok_of (x : Raw P w a es h) : ObjOk P w H h a (D P w a es) :=
  ⟨x, let ⟨_, _, _, _, o, _, _, h1, _⟩ := x; ⟨o, h1⟩, fun _ _ q k => q.stay k⟩
theorem rd_raw (ok : HOk P w H h) (e : Rd H a (D P w a es)) : Raw P w a es h := by
  have q : ObjOk P w H h a (D P w a es) := e.ok ok
  exact q.1
theorem items_are : ∀ {ks : ST.BK} {us : List Value}, Vals (ks.map V.bl) us → ItemsAre (boolKind P w) ks us
  | [], us, r => by
    have r0 : Vals [] us := r
    cases r0
    exact .nil
  | k :: ks, _, r => by
    rw [List.map_cons] at r
    cases r with
    | @cons _ u _ _ hh t =>
      have e : u = Value.bool k := hh
      refine .cons ?_ (items_are t)
      rw [e]
      show isB k (.bool k) = true
      simp [isB]
theorem key_of {ks : ST.BK} (ok : HOk P w H h) (e : H a = some (.tup (ks.map V.bl))) : (tupleKind (boolKind P w)).is h ks a := by
  obtain ⟨_, its, r, o, h1, h2, n, h3⟩ := (show ObjOk P w H h a (.tup (ks.map V.bl)) from ok a _ e)
  have hI := items_are (P := P) (w := w) r
  exact ⟨o, _, n, h1, h2, h3, by simpa using hI⟩
theorem rel_keys {xs : List (ST.BK × Addr × Value)} (ok : HOk P w H h) (r : Rel es xs) (ks : KeysAt H es) : ∀ x ∈ xs, (tupleKind (boolKind P w)).is h x.1 x.2.1 := by
  induction r with
  | nil => intro y hy; cases hy
  | @cons p q ps qs hq t ih =>
    intro y hy
    rcases List.mem_cons.mp hy with ey | ht
    · subst ey
      rw [← hq.1, ← hq.2.1]
      exact key_of ok (ks p List.mem_cons_self)
    · exact ih (fun z hz => ks z (List.mem_cons_of_mem _ hz)) y ht
theorem dict_of (ok : HOk P w H h) (e : Rd H a (D P w a es)) (ks : KeysAt H es) : es.length ≤ sizeLine ∧ (a == sysModules) = false ∧ ∃ xs, Rel es xs ∧ h.DictOfH (tupleKind (boolKind P w)) a xs := by
  obtain ⟨z, y, xs, r, o, en, ep, h1, h2, h3, h4, h5⟩ := rd_raw ok e
  exact ⟨z, y, xs, r, o, en, ep, h1, h2, h3, h4, rel_keys ok r ks, h5⟩
theorem Rel.val {xs : List (ST.BK × Addr × Value)} (r : Rel es xs) (k : ST.BK) (z : Int) (u : Value) (ru : RelV (.int z) u) : RelV (.int (if k ∈ ST.keysOf (strip es) then ST.look (strip es) k else z)) (((atKey xs k).map (·.2)).getD u) := by
  induction r with
  | nil => exact ru
  | @cons p q ps qs hh t ih =>
    obtain ⟨h1, _, h2⟩ := hh
    by_cases e : p.1 = k
    · have e' : q.1 = k := by rw [← h1]; exact e
      have hb : atKey (q :: qs) k = some q.2 := by simp [atKey, List.find?_cons, e']
      rw [hb]
      have hm : k ∈ ST.keysOf (strip (p :: ps)) := by rw [← e]; exact List.mem_cons_self
      rw [if_pos hm]
      show RelV (.int (ST.look ((p.1, p.2.2) :: strip ps) k)) q.2.2
      unfold ST.look
      rw [if_pos e]
      exact h2
    · have e' : ¬ q.1 = k := by rw [← h1]; exact e
      have hb : atKey (q :: qs) k = atKey qs k := by simp [atKey, List.find?_cons, e']
      rw [hb]
      have hm : k ∈ ST.keysOf (strip (p :: ps)) ↔ k ∈ ST.keysOf (strip ps) := by
        show k ∈ p.1 :: ST.keysOf (strip ps) ↔ _
        rw [List.mem_cons]
        exact ⟨fun z => z.elim (fun z => absurd z.symm e) id, .inr⟩
      have hl : ST.look (strip (p :: ps)) k = ST.look (strip ps) k := by
        show ST.look ((p.1, p.2.2) :: strip ps) k = _
        conv => lhs; unfold ST.look
        rw [if_neg e]
      rw [hl]
      by_cases c : k ∈ ST.keysOf (strip ps)
      · rw [if_pos c] at ih; rw [if_pos (hm.mpr c)]; exact ih
      · rw [if_neg c] at ih; rw [if_neg (fun z => c (hm.mp z))]; exact ih
/-- what get gives by the plain word -/
theorem look_if (es : List Ent) (k : ST.BK) : (if k ∈ ST.keysOf (strip es) then ST.look (strip es) k else 0) = ST.look (strip es) k := by
  by_cases c : k ∈ ST.keysOf (strip es)
  · rw [if_pos c]
  · rw [if_neg c, ST.look_not c]
theorem Rel.put {xs : List (ST.BK × Addr × Value)} (r : Rel es xs) (nd : (xs.map (·.1)).Nodup) (k : ST.BK) (b : Addr) {z : Int} {u : Value} (ru : RelV (.int z) u) : Rel (putB es k b z) (storedH xs k b u) := by
  induction r with
  | nil => exact .cons ⟨rfl, rfl, ru⟩ .nil
  | @cons p q ps qs hh t ih =>
    obtain ⟨h1, h2, h3⟩ := hh
    rw [List.map_cons, List.nodup_cons] at nd
    unfold putB
    by_cases e : p.1 = k
    · have e' : q.1 = k := by rw [← h1]; exact e
      have hb : atKey (q :: qs) k = some q.2 := by simp [atKey, List.find?_cons, e']
      rw [if_pos e, storedH_old hb, List.map_cons]
      have hk : k ∉ qs.map (·.1) := by rw [← e']; exact nd.1
      rw [map_putAt_of_not_mem qs k u hk]
      refine .cons ?_ t
      unfold putAt
      rw [if_pos e']
      exact ⟨h1, h2, ru⟩
    · have e' : ¬ q.1 = k := by rw [← h1]; exact e
      have hb : atKey (q :: qs) k = atKey qs k := by simp [atKey, List.find?_cons, e']
      rw [if_neg e]
      have hs : storedH (q :: qs) k b u = q :: storedH qs k b u := by
        unfold storedH
        rw [hb]
        by_cases c : (atKey qs k).isSome = true
        · rw [if_pos c, if_pos c, List.map_cons]
          congr 1
          unfold putAt
          rw [if_neg e']
        · rw [if_neg c, if_neg c]; rfl
      rw [hs]
      exact .cons ⟨h1, h2, h3⟩ (ih nd.2)
end

section
variable {X : Cx} {pins : List (Addr × Obj)} {σ : L2.St} {H : Hp} {s : Shared} {a b : Addr} {es : List Ent} {A : Around} {E : Value → Shared → Prop}
theorem get2 {k : ST.BK} {z : Int} {r : Value} {Q : Value → Shared → Prop} (hu : A.units + 1 < cLine) (I : Inv X pins σ H s) (e : Rd H a (D X.prog X.w a es)) (ks : KeysAt H es) (eb : H b = some (.tup (k.map V.bl))) (rd : RelV (.int z) r)
    (h : ∀ w' s', Inv X pins σ H s' → RelV (.int (if k ∈ ST.keysOf (strip es) then ST.look (strip es) k else z)) w' → Q w' s') : wpAny (model X.prog X.w) A (call (.builtin "dict.get") [.ref a, .ref b, r]) Q E s := by
  obtain ⟨_, hd, xs, rel, dd⟩ := dict_of I.hok e ks
  exact call_meetsIn PySem.F.slot_dict_get dd.typeIs PySem.F.entry_dict_get (PySem.F.args_dict_get_3 _ _ _) (meetsH_dict_get_default (tupleKind (boolKind X.prog X.w)) a b hd r) ⟨tupleKind_room_in1 hu, k, xs, key_of I.hok eb, dd, h _ _ (I.tok _) (rel.val k z r rd)⟩
theorem setItemB {k : ST.BK} {z : Int} {r : Value} {Q : Unit → Shared → Prop} (hu : A.units + 1 < cLine) (I : Inv X pins σ H s) (e : H a = some (D X.prog X.w a es)) (ks : KeysAt H es) (eb : H b = some (.tup (k.map V.bl))) (hl : es.length < sizeLine) (rv : RelV (.int z) r)
    (h : ∀ s', Inv X pins σ (upd H a (D X.prog X.w a (putB es k b z))) s' → Q () s') : wpAny (model X.prog X.w) A (setItem (.ref a) (.ref b) r) Q E s := by
  obtain ⟨zz, hd, xs, rel, dd⟩ := dict_of I.hok (.inl e) ks
  have hz : xs.length ≤ sizeLine := by rw [← Paired.length rel]; exact zz
  have hl2 : (putB es k b z).length ≤ sizeLine := by have := put_len k b z es; omega
  obtain ⟨_, _, _, _, _, _, _, _, nd⟩ := id dd
  have hkey := key_of (P := X.prog) (w := X.w) I.hok eb
  refine wpAny_setItem_heap (hsz := hz) (tupleKind_room_in1 hu) hkey dd fun hp dn hs => h _ ?_
  obtain ⟨q, en, ep, hq, h2, h3, h4, _, h5⟩ := dn
  exact d_write I (by rw [e]; exact True.intro) hs ⟨q, hq⟩ (ok_of ⟨hl2, hd, _, rel.put nd k b rv, q, en, ep, hq, h2, h3, h4, h5⟩)
theorem dictSetB {k : ST.BK} {z : Int} {r : Value} {Q : Unit → Shared → Prop} (hu : A.units < cLine) (I : Inv X pins σ H s) (e : H a = some (D X.prog X.w a es)) (ks : KeysAt H es) (eb : H b = some (.tup (k.map V.bl))) (hl : es.length < sizeLine) (rv : RelV (.int z) r)
    (h : ∀ s', Inv X pins σ (upd H a (D X.prog X.w a (putB es k b z))) s' → Q () s') : wpAny (model X.prog X.w) A (dictSet a (.ref b) r) Q E s := by
  obtain ⟨zz, hd, xs, rel, dd⟩ := dict_of I.hok (.inl e) ks
  have hz : xs.length ≤ sizeLine := by rw [← Paired.length rel]; exact zz
  have hl2 : (putB es k b z).length ≤ sizeLine := by have := put_len k b z es; omega
  obtain ⟨_, _, _, _, _, _, _, _, nd⟩ := id dd
  refine wpAny_dictSet_heap (hsz := hz) (knd := tupleKind (boolKind X.prog X.w)) hu (key_of I.hok eb) dd fun h' dd' hs => h _ ?_
  obtain ⟨q, en, ep, hq, h2, h3, h4, _, h5⟩ := dd'
  exact d_write I (by rw [e]; exact True.intro) hs ⟨q, hq⟩ (ok_of ⟨hl2, hd, _, rel.put nd k b rv, q, en, ep, hq, h2, h3, h4, h5⟩)
theorem raw_new {P : Program} {w : World} (h : Heap) (hb : sysModules < h.objs.size) : Raw P w h.objs.size [] (h.push { cls := .type "dict", data := .dict #[] }) :=
  have hne : (h.objs.size == sysModules) = false := beq_eq_false_iff_ne.mpr (Nat.ne_of_gt hb)
  ⟨Nat.zero_le _, hne, [], Paired.nil, _, #[], 0, Heap.get?_push_size _ rfl, ⟨rfl, rfl, rfl⟩, rfl, rfl, List.nodup_nil⟩
end

/-! ### the rules -/
def tNew (P : Program) (w : World) : TE := fun _ H Q => ∀ p, H p = none → Q (.ref p) (upd H p (D P w p []))
def tGet2 (P : Program) (w : World) (td ty tx : TE) : TE := fun σ H Q => td σ H fun x H1 => ∃ a es, x = .ref a ∧ Rd H1 a (D P w a es) ∧ ty σ H1 fun y H2 => tx σ H2 fun z H3 => ∃ b k i, Rd H3 a (D P w a es) ∧ KeysAt H3 es ∧
  y = .ref b ∧ H3 b = some (.tup (k.map V.bl)) ∧ z = .int i ∧ Q (.int (if k ∈ ST.keysOf (strip es) then ST.look (strip es) k else i)) H3
def sPut (P : Program) (w : World) (td ty tv : TE) : TS := fun Dn σ H => tv σ H fun v H1 => td σ H1 fun x H2 => ty σ H2 fun y H3 => ∃ a es b k i, x = .ref a ∧ H3 a = some (D P w a es) ∧ KeysAt H3 es ∧ y = .ref b ∧ H3 b = some (.tup (k.map V.bl)) ∧ v = .int i ∧
  es.length < sizeLine ∧ Dn.nx σ (upd H3 a (D P w a (putB es k b i)))
/-- {key: number} -/
def tDisp1 (P : Program) (w : World) (tk tv : TE) : TE := fun σ H Q => ∀ p, H p = none → tk σ (upd H p (D P w p [])) fun x H1 => tv σ H1 fun y H2 => H2 p = some (D P w p []) ∧ ∃ b k i, x = .ref b ∧ H2 b = some (.tup (k.map V.bl)) ∧ y = .int i ∧
  Q (.ref p) (upd H2 p (D P w p [(k, b, i)]))
section
variable {X : Cx} {pos pos' apos cpos : Pos} {o i e f value : Expr} {td ty tv tx : TE}
theorem pe_new : PE X (.Dict [] [] pos) (tNew X.prog X.w) := ⟨fun pins s σ H Q I h =>
  wpAny_Dict_empty ⟨.ref s.heap.objs.size, _, I.laid (a := s.heap.objs.size) (o := D X.prog X.w s.heap.objs.size []) (t' := s.toks) (fun _ _ q => Heap.get?_push_of_some _ q) (Nat.le_refl _) (ok_of (raw_new s.heap I.big)), rfl, h _ (I.hok.fresh (Nat.le_refl _))⟩⟩
theorem pe_get2 (hu : X.A.units + 1 < cLine) (ho : PE X o td) (he : PE X e ty) (hf : PE X f tx) (m : M2 X o "get" apos e f cpos) : PE X (.Call (.Attribute o "get" apos) [e, f] [] cpos) (tGet2 X.prog X.w td ty tx) := by
  refine ⟨fun pins s σ H Q I h => ?_⟩
  refine wpAny_Call_method m.base m.few m.line PySem.F.plainAttrs_dict PySem.F.slot_dict_get PySem.F.type_dict_get (thn (ho.run pins s σ H _ I h) fun u s1 ⟨x, H1, I1, rx, a, es, ex, d, q1⟩ => ?_)
  subst ex
  obtain rfl : u = Value.ref a := rx
  obtain ⟨_, _, _, _, ob, en, ep, h1, h2, _⟩ := rd_raw I1.hok d
  refine ⟨⟨ob, h1, h2.1⟩, fun a' ea => ⟨ob, by cases ea; exact h1, h2.2.1⟩, ?_⟩
  rw [m.trees]
  refine Calls.callWith_builtin rfl (Calls.evalArgs_plain ?_)
  refine Calls.spliced_cons (thn (he.run pins s1 σ H1 _ I1 q1) fun iv s2 ⟨y, H2, I2, ry, q2⟩ => ?_)
  refine Calls.spliced_cons (thn (hf.run pins s2 σ H2 _ I2 q2) fun fv s3 ⟨z, H3, I3, rz, b, k, i, d3, ks, ey, eb, ez, q3⟩ => Calls.spliced_nil ?_)
  subst ey ez
  obtain rfl : iv = Value.ref b := ry
  exact get2 hu I3 d3 ks eb rz fun w' s4 I4 rw' => ⟨_, H3, I4, rw', q3⟩
theorem ps_put (hu : X.A.units + 1 < cLine) (ho : PE X o td) (hi : PE X i ty) (hv : PE X value tv) (hs : swapsWith value (some (.Subscript o i pos')) pos.line X.env = pure false) :
    PS X (.Assign [.Subscript o i pos'] value pos) (sPut X.prog X.w td ty tv) := by
  refine ⟨fun pins s σ H Dn I h => ?_⟩
  refine wpAny_Assign_Subscript (thn (hv.run pins s σ H _ I h) fun r s1 ⟨v, H1, I1, rv, q1⟩ => thn (ho.run pins s1 σ H1 _ I1 q1) fun u s2 ⟨x, H2, I2, rx, q2⟩ => thn (hi.run pins s2 σ H2 _ I2 q2) fun iv s3 ⟨y, H3, I3, ry, a, es, b, k, z, ex, e, ks, ey, eb, ev, hl, q3⟩ => ?_) hs
  subst ex ey ev
  obtain rfl : u = Value.ref a := rx
  obtain rfl : iv = Value.ref b := ry
  exact setItemB hu I3 e ks eb hl rv fun s4 I4 => ⟨σ, _, I4, q3⟩
theorem pe_disp1 (hu : X.A.units < cLine) (hk : PE X e ty) (hv : PE X value tv) : PE X (.Dict [some e] [value] pos) (tDisp1 X.prog X.w ty tv) := by
  refine ⟨fun pins s σ H Q I q => ?_⟩
  have hnew := I.hok.fresh (Nat.le_refl s.heap.objs.size)
  have I1 := I.laid (a := s.heap.objs.size) (o := D X.prog X.w s.heap.objs.size []) (h' := s.heap.push { cls := .type "dict", data := .dict #[] }) (t' := s.toks) (fun _ _ q => Heap.get?_push_of_some _ q) (Nat.le_refl _) (ok_of (raw_new s.heap I.big))
  have pps : PPs X pos [some e] [value] [(ty, tv)] := pps_cons hk hv pps_nil
  refine wpAny_Dict_any rfl rfl (by simp) (by simp) (thn (pps.run pins _ σ _ (fun ps H2 => match ps with
    | [(x, y)] => H2 s.heap.objs.size = some (D X.prog X.w s.heap.objs.size []) ∧ ∃ b k i, x = .ref b ∧ H2 b = some (.tup (k.map V.bl)) ∧ y = .int i ∧ Q (.ref s.heap.objs.size) (upd H2 s.heap.objs.size (D X.prog X.w s.heap.objs.size [(k, b, i)]))
    | _ => False) I1 (q _ hnew)) fun ws s2 ⟨ps, H2, I2, rel, q2⟩ => ?_)
  match ps, rel, q2 with
  | [(x, y)], .cons (b := (u1, u2)) ⟨r1, r2⟩ .nil, ⟨e0, b, k, i, ex, eb, ey, q2⟩ =>
    subst ex ey
    obtain rfl : u1 = Value.ref b := r1
    unfold storeAll
    rw [List.forIn_cons]
    refine wpAny_bind (wpAny_bind (dictSetB hu I2 e0 (fun _ z => nomatch z) eb (by simp [sizeLine_eq]) r2 fun s3 I3 => wpAny_pure ?_))
    show wpAny _ _ (forIn [] PUnit.unit _) _ _ _
    rw [List.forIn_nil]
    exact wpAny_pure ⟨.ref s.heap.objs.size, _, I3, rfl, q2⟩
end
end BD
end
section
set_option Elab.async false
set_option linter.all false
set_option maxRecDepth 100000
set_option maxHeartbeats 2000000
namespace BD
open PySem PySem.Spec PyProof.Rows L2
open PySem.W
/-! ### for key, number in d.items() -/
def Itb (P : Program) (w : World) (d : Addr) (o : Obj) (es : List Ent) : It :=
  ⟨fun i H => H d = some (.frz o (D P w d es)) ∧ i < es.length, fun i H x H' => ∃ T e, es[i]? = some e ∧ x = .ref T ∧ H T = none ∧ H' = upd H T (.tup [.ref e.2.1, .int e.2.2]), fun i H => H d = some (.frz o (D P w d es)) ∧ es.length ≤ i⟩
section
variable {X : Cx} {pins : List (Addr × Obj)} {σ : L2.St} {H : Hp} {s : Shared} {d : Addr} {o : Obj} {es : List Ent}
theorem frzB (I : L2.Inv X pins σ H s) (h : H d = some (.frz o (D X.prog X.w d es))) : (d == sysModules) = false ∧ s.heap.get? d = some o ∧ o.ExactDict ∧ ∃ (en : Array DictEntry) (ep : Nat), o.data = .dict en ep ∧ en.size = es.length ∧
    ∀ (i : Nat) (e : Ent), es[i]? = some e → ∃ u : Value, en[i]? = some ⟨(tupleKind (boolKind X.prog X.w)).hash e.1, .ref e.2.1, u⟩ ∧ RelV (.int e.2.2) u := by
  obtain ⟨hdd, hx⟩ := I.hok d _ h
  obtain ⟨z, hs, xs, rel, o', en, ep, ho, hc, hdt, he, nd⟩ := (show ObjOk X.prog X.w H s.heap d (D X.prog X.w d es) from hx).1
  rw [hdd] at ho
  cases ho
  refine ⟨hs, hdd, hc, en, ep, hdt, ?_, fun i e q => ?_⟩
  · have l1 : en.size = xs.length := size_of_entries he
    have l2 : es.length = xs.length := Paired.length rel
    omega
  · obtain ⟨b, hb, e1, e2, e3⟩ := paired_get rel q
    have q2 := entry_at he i
    rw [hb] at q2
    refine ⟨b.2.2, ?_, e3⟩
    rw [q2, e1, e2]
    rfl
end
section
variable {P : Program} {w : World} {K : PySem.W.Frag} {d : Addr} {o : Obj} {es : List Ent} {en : Array DictEntry} {ep : Nat}
theorem turn_items {elts : List Expr} {kk : Nat} {tpos : Pos} (ja : Addr) (hod : o.data = .dict en ep) (hsz : en.size = es.length) :
    Turn P w K (.Tuple elts kk tpos) (Itb P w d o es) [ja] ja (fun i h => ∃ ok uv, IsItemIter h ja d i en.size ep ok uv) where
  mem := by simp
  obj := fun i h sx b hb => by
    obtain rfl : b = ja := by simpa using hb
    obtain ⟨ok, uv, e⟩ := sx
    exact ⟨_, e, fun v hv => nomatch hv⟩
  keep := fun i h h' sx k => let ⟨ok, uv, e⟩ := sx; ⟨ok, uv, k ja (by simp) _ e⟩
  item := by
    intro X hP hw hK hc i pins s σ H E I hf sx hg
    subst hP hw hK
    obtain ⟨hdd, hi⟩ := hg
    obtain ⟨hs, hgd, hx, en', ep', hdt, hsz', hent⟩ := frzB I hdd
    have hep := dict_ep hod hdt
    obtain ⟨rfl, rfl⟩ := hep
    obtain ⟨e, he0⟩ : ∃ p, es[i]? = some p := ⟨es[i], List.getElem?_eq_getElem hi⟩
    obtain ⟨u, hu, ru⟩ := hent i e he0
    obtain ⟨ok, uv, he⟩ := sx
    have hlt : ja < s.heap.objs.size := Heap.lt_size he
    have hi' : i < en'.size := by omega
    have hei : en'[i] = ⟨(tupleKind (boolKind X.prog X.w)).hash e.1, .ref e.2.1, u⟩ := by
      rw [Array.getElem?_eq_getElem hi'] at hu
      exact Option.some.inj hu
    refine DT.nextI he ⟨o, hgd, hx, hdt⟩ hi' fun h' ho hT hz hk => ?_
    rw [hei] at ho hT
    refine ⟨_, rfl, wpAny_letOwnedTupleGo_items (s := { s with heap := h' }) ho fun h'' he' but => ?_⟩
    have hT2 : h''.get? s.heap.objs.size = some { cls := .type "tuple", data := .seq #[.ref e.2.1, u] } := (but.2 _ (Nat.ne_of_gt hlt)).trans hT
    have new : ObjOk X.prog X.w (upd H s.heap.objs.size (.tup [.ref e.2.1, .int e.2.2])) h'' s.heap.objs.size (.tup [.ref e.2.1, .int e.2.2]) :=
      ⟨by show 2 ≤ sizeLine; decide, [.ref e.2.1, u], .cons rfl (.cons ru .nil), ⟨_, hT2, rfl, _, rfl⟩⟩
    have I1 : L2.Inv X pins σ (upd H s.heap.objs.size (.tup [.ref e.2.1, .int e.2.2])) { s with heap := h'' } :=
      I.turnedNew (t' := s.toks) (ch := [ja]) (fun b ob hb e => (but.2 b (by simpa using hb)).trans (hk b ob (by simpa using hb) e)) hf (Nat.le_refl _) new
    refine ⟨.ref s.heap.objs.size, _, I1, rfl, ⟨_, e, he0, rfl, I.hok.fresh (Nat.le_refl _), rfl⟩, ⟨_, _, he'⟩, fun b hb => ?_⟩
    have eb : b = ja := by simpa using hb
    rw [eb, upd_ne (Nat.ne_of_lt hlt)]
    exact (hf ja (by simp)).1
  done := by
    intro X hP hw hK hc i pins s σ H E I hf sx hg
    subst hP hw hK
    obtain ⟨hdd, hi⟩ := hg
    obtain ⟨g0, g1, _, g3, g4, g5⟩ := hf ja (by simp)
    obtain ⟨hs, hgd, hx, en', ep', hdt, hsz', hent⟩ := frzB I hdd
    have hep := dict_ep hod hdt
    obtain ⟨rfl, rfl⟩ := hep
    obtain ⟨ok, uv, he⟩ := sx
    exact DT.endI (I.ok.hd hc) he ⟨o, hgd, hx, hdt⟩ (by omega) fun h' eb => ⟨rfl, I.turned (t' := s.toks) (fun b ob hb e => eb b ob hb e) g0 g1 g3 g4 g5⟩
  self := fun A i s Q E sx h => let ⟨_, _, e⟩ := sx; PySem.W.kcp_self e h
end
def iItemsB (P : Program) (w : World) (td : TE) : TI := fun σ H R => td σ H fun x H1 => ∃ d o es, x = .ref d ∧ H1 d = some (.frz o (D P w d es)) ∧ R (Itb P w d o es) H1
theorem pi_itemsB {X : Cx} {tg e : Expr} {td : TE} {apos cpos : Pos} {elts : List Expr} {kk : Nat} {tpos : Pos} (he : PE X e td) (hbase : attributeBase e "items" X.env (eval e X.env) = eval e X.env := by rfl) (hline : (apos.endLine == cpos.line) = true := by rfl) :
    PI X (.Tuple elts kk tpos) (.Call (.Attribute e "items" apos) [] [] cpos) (iItemsB X.prog X.w td) := by
  constructor
  intro pins s σ H R I h
  refine wpAny_Call_method (T := "dict") (id := "dict.items") hbase rfl hline F.plainAttrs_dict F.slot_dict_items F.type_dict_items (thn (he.run pins s σ H _ I h) fun u s1 ⟨x, H1, I1, rxx, d, o, es, ex, hdd, q⟩ => ?_)
  subst ex
  obtain rfl : u = Value.ref d := rxx
  obtain ⟨hs, hgd, hx, en, ep, hdt, hsz, hent⟩ := frzB I1 hdd
  refine ⟨⟨o, hgd, hx.1⟩, fun a' ea => ⟨o, by cases ea; exact hgd, hx.2.1⟩, ?_⟩
  have I2 : L2.Inv X pins σ H1 { s1 with heap := s1.heap.push { cls := .type "dict_items", data := .fields #[.ref d] } } := I1.kept (t' := s1.toks) fun b ob q => Heap.get?_push_of_some _ q
  have last : wpAny (model X.prog X.w) X.A (pyIter (.ref s1.heap.objs.size)) (PIE X pins σ (.Tuple elts kk tpos) R) X.xe { s1 with heap := s1.heap.push { cls := .type "dict_items", data := .fields #[.ref d] } } := by
    refine DT.iterI (d := d) ⟨_, Heap.get?_push_size _ rfl, rfl, rfl⟩ (DT.Raw.push ⟨o, hgd, hx, hdt⟩ _) (pi_one (tk := s1.toks) I2 _ (turn_items _ hdt hsz) ⟨.none, .none, ?_⟩ q)
    exact Heap.get?_push_size _ rfl
  show wpAny (model X.prog X.w) X.A (callWith cpos (Value.builtin "dict.items") [.ref d] [] []) _ X.xe s1
  exact method_meetsIn F.slot_dict_items F.entry_dict_items rfl (PySem.evalArgs_none ⟨rfl, ⟨o, hgd, hx.1⟩, F.args_dict_items_1 _, _, DT.meetsItems (es := en) (ep := ep) hs, ⟨o, hgd, hx, hdt⟩, last⟩)
theorem walk_itemsB {P : Program} {w : World} {d : Addr} {o : Obj} {es : List Ent} : ∀ {g : TG} {tb : TS} {Dn : Ends} {σ : L2.St} {H : Hp} (Pv : Nat → L2.St → Hp → Prop) (h0 : Pv 0 σ H) (hG : ∀ i σ H, i ≤ es.length → Pv i σ H → H d = some (.frz o (D P w d es)))
    (hs : ∀ i e σ H T, es[i]? = some e → Pv i σ H → H T = none → g (.ref T) σ (upd H T (.tup [.ref e.2.1, .int e.2.2])) fun σ2 H2 => tb { Dn with nx := Pv (i + 1), ct := Pv (i + 1), bk := Dn.nx } σ2 H2) (hdd : ∀ σ H, Pv es.length σ H → Dn.nx σ H),
    ∃ Wk : Nat → Nat → L2.St → Hp → Prop, (∃ m, Wk 0 m σ H) ∧ ∀ i m σ H, Wk i m σ H →
      ((Itb P w d o es).stop i H ∧ Dn.nx σ H) ∨ ((Itb P w d o es).go i H ∧ ∃ N : L2.St → Hp → Prop, (∀ σ' H', N σ' H' → ∃ m', m' < m ∧ Wk (i + 1) m' σ' H') ∧ ∀ x H', (Itb P w d o es).yld i H x H' → g x σ H' fun σ2 H2 => tb { Dn with nx := N, ct := N, bk := Dn.nx } σ2 H2) := by
  intro g tb Dn σ H Pv h0 hG hs hdd
  refine ⟨fun i m σ H => m = es.length - i ∧ i ≤ es.length ∧ Pv i σ H, ⟨es.length, by simp, Nat.zero_le _, h0⟩, ?_⟩
  rintro i m σ H ⟨rfl, hi, p⟩
  have q := hG i σ H hi p
  by_cases hlt : i < es.length
  · refine .inr ⟨⟨q, hlt⟩, Pv (i + 1), fun σ' H' p' => ⟨es.length - (i + 1), by omega, rfl, hlt, p'⟩, fun x H' y => ?_⟩
    obtain ⟨T, e, h1, h2, h3, h4⟩ := y
    subst h2 h4
    exact hs i e σ H T h1 p h3
  · have e : i = es.length := by omega
    subst e
    exact .inl ⟨⟨q, Nat.le_refl _⟩, hdd σ H p⟩
end BD
end
section
set_option Elab.async false
set_option linter.all false
set_option maxRecDepth 100000
set_option maxHeartbeats 2000000
namespace SP
open PySem PySem.Spec PyProof.Rows L2
def topS (i : Nat) : Stmt := PySem.Challenge.pw_spanningtrees_s01_answers.main.body.getD i (.Pass ⟨0, 0, 0, 0⟩)
/-! ### heaps -/
theorem same_upd {H : Hp} {p : Addr} {o : HO} (h : H p = none) : Same H (upd H p o) := fun b x e => by
  rw [upd_ne (ne_of_none e h)]
  exact e
theorem same_new {H H' : Hp} {p : Addr} {o : HO} (s : Same H H') (h : H p = none) : Same H (upd H' p o) := fun b x e => by
  rw [upd_ne (ne_of_none e h)]
  exact s b x e
theorem same_at {H H' : Hp} {p q : Addr} {o u : HO} (s : Same H H') (h : H' q = some u) (hp : H' p = none) : (upd H' p o) q = some u := by
  rw [upd_ne (ne_of_none h hp)]
  exact h
theorem upd_at {H : Hp} {p q : Addr} {o u : HO} (h : H q = some u) (hp : H p = none) : (upd H p o) q = some u := by
  rw [upd_ne (ne_of_none h hp)]
  exact h
abbrev nV (n : Nat) : V := .int (n : Int)
def nVs (l : List Nat) : List V := l.map fun (n : Nat) => V.int (n : Int)
theorem nVs_get {l : List Nat} {i x : Nat} (h : l[i]? = some x) : (nVs l)[i]? = some (.int (x : Int)) := by
  unfold nVs; rw [List.getElem?_map, h]; rfl
theorem nVs_get' {l : List Nat} {i : Nat} {v : V} (h : (nVs l)[i]? = some v) : ∃ x, l[i]? = some x ∧ v = .int (x : Int) := by
  unfold nVs at h
  rw [List.getElem?_map] at h
  cases q : l[i]? with
  | none => rw [q] at h; cases h
  | some x => rw [q] at h; exact ⟨x, rfl, (Option.some.inj h).symm⟩
theorem nVs_len (l : List Nat) : (nVs l).length = l.length := by unfold nVs; simp
theorem nVs_app (l m : List Nat) : nVs (l ++ m) = nVs l ++ nVs m := by unfold nVs; simp
theorem take_more {α : Type} {l : List α} {i : Nat} {x : α} (h : l[i]? = some x) : l.take (i + 1) = l.take i ++ [x] := by
  rw [List.take_add_one, h]; rfl
theorem small {n : Nat} (h : n ≤ 100000) : n < sizeLine := Nat.lt_of_le_of_lt h (by decide)
theorem smallE {n : Nat} (h : n ≤ 100000) : n ≤ sizeLine := Nat.le_of_lt (small h)
/-! ### ways -/
def WayAt (H : Hp) (p : Addr) (w : ST.Way) : Prop := H p = some (.tup [.int (w.1 : Int), .int (w.2 : Int)])
def IsWays (K : PySem.W.Frag) (H : Hp) (a : Addr) (ws : List ST.Way) : Prop := ∃ as : List Addr, SqL K H a (as.map V.ref) ∧ Paired (WayAt H) as ws
theorem WayAt.same {H H' : Hp} {p : Addr} {w : ST.Way} (s : Same H H') (h : WayAt H p w) : WayAt H' p w := s _ _ h
theorem ways_same {H H' : Hp} {as : List Addr} {ws : List ST.Way} (s : Same H H') (h : Paired (WayAt H) as ws) : Paired (WayAt H') as ws := Paired.mapP h fun _ _ q => q.same s
theorem IsWays.same {K : PySem.W.Frag} {H H' : Hp} {a : Addr} {ws : List ST.Way} (s : Same H H') (h : IsWays K H a ws) : IsWays K H' a ws := by
  obtain ⟨as, h1, h2⟩ := h
  exact ⟨as, s.seq h1, ways_same s h2⟩
theorem ways_get {H : Hp} {as : List Addr} {ws : List ST.Way} (h : Paired (WayAt H) as ws) {i : Nat} {v : V} (e : (as.map V.ref)[i]? = some v) : ∃ p w, as[i]? = some p ∧ v = .ref p ∧ ws[i]? = some w ∧ WayAt H p w := by
  rw [List.getElem?_map] at e
  cases q : as[i]? with
  | none => rw [q] at e; cases e
  | some p =>
    rw [q] at e
    obtain ⟨w, h1, h2⟩ := paired_get h q
    exact ⟨p, w, rfl, (Option.some.inj e).symm, h1, h2⟩
theorem ways_at_i {H : Hp} {as : List Addr} {ws : List ST.Way} (h : Paired (WayAt H) as ws) {i : Nat} {w : ST.Way} (e : ws[i]? = some w) : ∃ p, as[i]? = some p ∧ (as.map V.ref)[i]? = some (.ref p) ∧ WayAt H p w := by
  have hl := Paired.length h
  have hi : i < as.length := by
    have := (List.getElem?_eq_some_iff.mp e).1
    omega
  obtain ⟨w', h1, h2⟩ := paired_get h (List.getElem?_eq_getElem hi)
  rw [e] at h1
  cases h1
  exact ⟨as[i], List.getElem?_eq_getElem hi, by rw [List.getElem?_map, List.getElem?_eq_getElem hi]; rfl, h2⟩
theorem ways_len {H : Hp} {as : List Addr} {ws : List ST.Way} (h : Paired (WayAt H) as ws) : (as.map V.ref).length = ws.length := by
  rw [List.length_map]; exact Paired.length h
/-- ways in a list that H tracks -/
def OwnWays (H : Hp) (a : Addr) (ws : List ST.Way) : Prop := ∃ as : List Addr, H a = some (.lst (as.map V.ref)) ∧ Paired (WayAt H) as ws
theorem OwnWays.is {K : PySem.W.Frag} {H : Hp} {a : Addr} {ws : List ST.Way} (h : OwnWays H a ws) : IsWays K H a ws := by
  obtain ⟨as, h1, h2⟩ := h
  exact ⟨as, SqL.of h1, h2⟩
theorem OwnWays.same {H H' : Hp} {a : Addr} {ws : List ST.Way} (s : Same H H') (h : OwnWays H a ws) : OwnWays H' a ws := by
  obtain ⟨as, h1, h2⟩ := h
  exact ⟨as, s _ _ h1, ways_same s h2⟩
/-! ### o[i] of a list, for o[i] += e -/
theorem get_list {X : Cx} : PGet X (fun o i H Q => ∃ p xs j v, o = .ref p ∧ i = .int ((j : Nat) : Int) ∧ SqL X.K H p xs ∧ xs[j]? = some v ∧ Q v H) := by
  intro pins s σ H o i ov iv Q I ro ri h
  obtain ⟨p, xs, j, v, rfl, rfl, hq, he, q⟩ := h
  cases ro
  obtain ⟨t, rfl⟩ := ri
  obtain ⟨its, r, pl, hz⟩ := I.list hq
  obtain ⟨u, eu, ru⟩ := r.get he
  have hj : j < xs.length := (List.getElem?_eq_some_iff.mp he).1
  have hl := r.length
  have hn := line63
  exact wpAny_getItem_list pl.isList (by omega) (by omega) (by simpa using eu) ⟨v, H, I, ru, q⟩
end SP
namespace SP
open PySem PySem.Spec PyProof.Rows L2
def rLen (K : PySem.W.Frag) : List V → Hp → VK → Prop := fun xs H Q => ∃ p ys, xs = [.ref p] ∧ (SqL K H p ys ∨ SqT K H p ys) ∧ Q (.int ys.length) H
abbrev tLen (K : PySem.W.Frag) (ta : TE) : TE := tCB (rLen K) (tCons ta tNil)
abbrev tNot0 (K : PySem.W.Frag) : Prop := True
end SP
end
section
set_option Elab.async false
set_option linter.all false
set_option maxRecDepth 100000
set_option maxHeartbeats 2000000
namespace SP
open PySem PySem.Spec PyProof.Rows L2
section
variable {P : Program} {w : World} {K : PySem.W.Frag} {mg : Str → Option Value} {base : Heap}
/-! ### ways_at(ways, place): [way for way in ways if place in way] -/
abbrev sWaysAt : Stmt := topS 1
theorem scWaysAt : FnScope ["ways", "place", "way"] ["ways", "place"] (defScope sWaysAt) := ⟨rfl, rfl, rfl, by decide +kernel, rfl, by decide +kernel, by decide +kernel⟩
def spWaysAt (K : PySem.W.Frag) : Sp := fun vs H Q _ => ∃ (a : Addr) (ws : List ST.Way) (x : Nat), vs = [.ref a, .int (x : Int)] ∧ IsWays K H a ws ∧ ws.length ≤ 2000 ∧
  ∀ (H' : Hp) (p : Addr), Same H H' → H p = none → IsWays K H' p (ST.waysAt ws x) → Q (.ref p) H'
theorem eqV_nat (a b : Nat) : eqV (.int (a : Int)) (.int (b : Int)) = (a == b) := by
  show ((a : Int) == (b : Int)) = _
  by_cases h : a = b
  · subst h; rw [beq_self_eq_true, beq_self_eq_true]
  · rw [beq_eq_false_iff_ne.mpr h, beq_eq_false_iff_ne.mpr (by omega)]
theorem inV_way (x : Nat) (w : ST.Way) : inV (.int (x : Int)) [.int (w.1 : Int), .int (w.2 : Int)] = ST.hasP x w := by
  unfold inV ST.hasP
  simp only [List.any_cons, List.any_nil, Bool.or_false]
  rw [eqV_nat, eqV_nat]
theorem ok_waysAt {f : Addr} {fd : FuncData} {k : Nat} (F : Fun K "ways_at" "ways_at" sWaysAt f fd) : FnOk P w K mg base CX0 (k + 1) f fd ["ways", "place"] (spWaysAt K) := by
  refine F.ok scWaysAt (fun vs H Q E h => ?_) (fun cdv A outer s H vs Q E hr h => ?_)
  · obtain ⟨a, ws, x, rfl, _⟩ := h
    rfl
  · obtain ⟨a, ws, x, rfl, ⟨as, hS, hP⟩, hlen, q⟩ := h
    refine ⟨_, pss_one (ps_ret (pe_lc (own := [("way", 2)]) (g := gName 2) (tt := tTest (tOp (rIn K false) (tVar 1) (tVar 2))) (te := tVar 2) (by rfl) scWaysAt.nd (pi_list (pv 0)) (blkOk_by (own := [("way", 2)]) (N := ["ways", "place", "way"]) (sc := defScope sWaysAt) (by decide +kernel))
      (fun _ _ _ _ _ => pg_name (i := 2) scWaysAt.nd rfl (Or.inl rfl)) (fun _ _ _ _ _ => pts_one (pt_cmpR op_in_seq (pv 1) (pv 2) (by rfl))) (fun _ _ _ _ _ => pv 2))), ?_⟩
    refine ⟨.ref a, rfl, a, rfl, ⟨_, hS⟩, fun D nD => ?_⟩
    refine lc_list (K := K) (a := a) (xs := as.map V.ref) (fun i H1 => Same H H1 ∧ ∃ bs : List Addr, H1 D = some (.lst (bs.map V.ref)) ∧ Paired (WayAt H) bs ((ws.take i).filter (ST.hasP x)))
      ⟨same_upd nD, [], upd_same, .nil⟩ (fun i H1 _ h => h.1.seq hS) (fun i v H1 hv h => ?_) (fun H1 h => ?_)
    · obtain ⟨sm, bs, eD, hB⟩ := h
      obtain ⟨p, w', hp, rfl, hw, hW⟩ := ways_get hP hv
      refine ⟨rfl, _, rfl, _, rfl, p, _, rfl, .inr (SqT.of (hW.same sm)), rfl, rfl, _, rfl, ?_⟩
      have hl : bs.length ≤ 2000 := by
        have h1 := Paired.length hB
        have h2 := List.length_filter_le (ST.hasP x) (ws.take i)
        have h3 : (ws.take i).length ≤ ws.length := by rw [List.length_take]; omega
        omega
      refine ite2 (fun e => ⟨_, rfl, _, eD, ?_, same_new sm nD, bs ++ [p], ?_, ?_⟩) (fun e => ⟨sm, bs, eD, ?_⟩)
      · rw [List.length_map]; exact small (by omega)
      · rw [upd_same, List.map_append]; rfl
      · have e' : ST.hasP x w' = true := by rw [← inV_way]; exact e
        rw [take_more hw, List.filter_append, List.filter_cons, if_pos e', List.filter_nil]
        exact Paired.snoc hB hW
      · have e' : ¬ ST.hasP x w' = true := by rw [← inV_way]; exact e
        rw [take_more hw, List.filter_append, List.filter_cons, if_neg e', List.filter_nil, List.append_nil]
        exact hB
    · obtain ⟨sm, bs, eD, hB⟩ := h
      rw [List.length_map, Paired.length hP, List.take_length] at hB
      exact q H1 D sm nD ⟨bs, SqL.of eD, ways_same sm hB⟩
/-! ### least_end(places, ways) -/
abbrev sLeast : Stmt := topS 2
theorem scLeast : FnScope ["places", "ways", "place"] ["places", "ways"] (defScope sLeast) := ⟨rfl, rfl, rfl, by decide +kernel, rfl, by decide +kernel, by decide +kernel⟩
def spLeast (K : PySem.W.Frag) : Sp := fun vs H Q _ => ∃ (a : Addr) (ws : List ST.Way) (n x : Nat) (xs : List Nat), vs = [.int (n : Int), .ref a] ∧ IsWays K H a ws ∧ ws.length ≤ 2000 ∧ n ≤ 9 ∧ ST.ends n ws = x :: xs ∧
  ∀ H' : Hp, Same H H' → Q (.int (x : Int)) H'
theorem range_take_filter (n i : Nat) (h : i < n) (p : Nat → Bool) : ((List.range (i + 1)).filter p) = (List.range i).filter p ++ (if p i = true then [i] else []) := by
  rw [List.range_succ, List.filter_append]
  congr 1
  by_cases c : p i = true <;> simp [c]
theorem ok_least {f fW : Addr} {fd fdW : FuncData} {k : Nat} (F : Fun K "least_end" "least_end" sLeast f fd) (FW : Fun K "ways_at" "ways_at" sWaysAt fW fdW) (bW : Binds K fdW ["ways", "place"] []) (gW : mg "ways_at" = some (.ref fW))
    (ml : mg "len" = none) (mr : mg "range" = none) : FnOk P w K mg base CX0 2 f fd ["places", "ways"] (spLeast K) := by
  have GW : FnOk P w K mg base CX0 1 fW fdW ["ways", "place"] (spWaysAt K) := ok_waysAt FW
  refine F.ok scLeast (fun vs H Q E h => ?_) (fun cdv A outer s H vs Q E hr h => ?_)
  · obtain ⟨a, ws, n, x, xs, rfl, _⟩ := h
    rfl
  · obtain ⟨a, ws, n, x, xs, rfl, hW, hlen, hn, he, q⟩ := h
    refine ⟨_, pss_one (ps_ret (pe_ix ix_list (pe_lc (own := [("place", 2)]) (g := gName 2) (tt := tTest (tOp rEq (tLen K (tCall (spWaysAt K) [] E0 (tCons (tVar 1) (tCons (tVar 2) tNil)))) (tC (.int 1)))) (te := tVar 2) (by rfl) scLeast.nd (pi_range1 (by rfl) mr (pa_cons (pv 0) pa_nil)) (blkOk_by (own := [("place", 2)]) (N := ["places", "ways", "place"]) (sc := defScope sLeast) (by decide +kernel))
      (fun _ _ _ _ _ => pg_name (i := 2) scLeast.nd rfl (Or.inl rfl)) (fun _ _ _ _ _ => pts_one (pt_cmpR op_eq (pe_callB call_len_seq (by rfl) ml PySem.boot_len (pa_cons (pe_call GW hr (by rfl) gW FW.kp bW .nil pass0 (pa_cons (pv 1) (pa_cons (pv 2) pa_nil))) pa_nil)) pe_int (nomark _))) (fun _ _ _ _ _ => pv 2)) pe_int (fun _ _ => rfl))), ?_⟩
    refine ⟨_, rfl, (n : Int), rfl, by omega, by omega, fun D nD => ?_⟩
    refine lc_range (lo := 0) (n := (n : Int).toNat) (fun i H1 => Same H H1 ∧ H1 D = some (.lst (nVs ((List.range i).filter fun y => decide (ST.deg ws y = 1)))))
      ⟨same_upd nD, upd_same⟩ (fun i H1 hi h => ?_) (fun H1 h => ?_)
    · obtain ⟨sm, eD⟩ := h
      have hi' : i < n := by omega
      have ei : (0 : Int) + (i : Int) = (i : Int) := by omega
      rw [ei]
      refine ⟨rfl, _, rfl, _, rfl, a, ws, i, rfl, hW.same sm, hlen, fun H2 p s2 np hp => ?_⟩
      obtain ⟨bs, hB, hB2⟩ := hp
      refine ⟨p, _, rfl, .inl hB, rfl, _, rfl, ?_⟩
      have hl : (bs.map V.ref).length = ST.deg ws i := ways_len hB2
      have e3 := range_take_filter n i hi' (fun y => decide (ST.deg ws y = 1))
      have sm2 : Same H H2 := sm.trans s2
      refine ite2 (fun e => ⟨_, rfl, _, s2 _ _ eD, ?_, same_new sm2 nD, ?_⟩) (fun e => ⟨sm2, ?_⟩)
      · rw [nVs_len]
        have h1 := List.length_filter_le (fun y => decide (ST.deg ws y = 1)) (List.range i)
        rw [List.length_range] at h1
        exact small (by omega)
      · have e1 : V.int ((bs.map V.ref).length : Int) = V.int 1 := of_decide_eq_true e
        rw [hl] at e1
        have e2 : ST.deg ws i = 1 := by injection e1 with e1; omega
        rw [upd_same, e3, if_pos (decide_eq_true e2), nVs_app]
        rfl
      · have e2 : ¬ ST.deg ws i = 1 := fun z => e (decide_eq_true (by rw [hl, z]; rfl))
        rw [e3, if_neg (by simpa using e2), List.append_nil]
        exact s2 _ _ eD
    · obtain ⟨sm, eD⟩ := h
      have en : (n : Int).toNat = n := by omega
      rw [en] at eD
      have eE : ((List.range n).filter fun y => decide (ST.deg ws y = 1)) = x :: xs := he
      rw [eE] at eD
      refine ⟨D, _, _, _, rfl, rfl, SqL.of eD, atI_nat (j := 0) rfl, q H1 sm⟩
/-! ### other_end(way, place) -/
abbrev sOther : Stmt := topS 3
theorem scOther : FnScope ["way", "place", "one", "other"] ["way", "place"] (defScope sOther) := ⟨rfl, rfl, rfl, by decide +kernel, rfl, by decide +kernel, by decide +kernel⟩
def spOther : Sp := fun vs H Q _ => ∃ (p : Addr) (v : ST.Way) (x : Nat), vs = [.ref p, .int (x : Int)] ∧ WayAt H p v ∧ Q (.int ((ST.otherEnd v x : Nat) : Int)) H
theorem ok_other {f : Addr} {fd : FuncData} {k : Nat} (F : Fun K "other_end" "other_end" sOther f fd) : FnOk P w K mg base CX0 (k + 1) f fd ["way", "place"] spOther := by
  refine F.ok scOther (fun vs H Q E h => ?_) (fun cdv A outer s H vs Q E hr h => ?_)
  · obtain ⟨p, v, x, rfl, _⟩ := h
    rfl
  · obtain ⟨p, v, x, rfl, hW, q⟩ := h
    refine ⟨_, pss_cons (ps_asg (pv 0) (pg_tup rfl (pgs_cons (pg_name (i := 2) scOther.nd rfl (.inl rfl)) (pgs_cons (pg_name (i := 3) scOther.nd rfl (.inl rfl)) pgs_nil))))
      (pss_one (ps_ret (pe_ifExp (pt_cmpR op_eq (pv 2) (pv 1) (nomark _)) (pv 3) (pv 2)))), ?_⟩
    refine ⟨_, rfl, p, _, rfl, SqT.of hW, rfl, _, _, rfl, _, _, rfl, rfl, ?_⟩
    refine ⟨_, rfl, _, rfl, rfl, _, rfl, ite2 (fun e => ⟨_, rfl, ?_⟩) (fun e => ⟨_, rfl, ?_⟩)⟩
    · have e1 : V.int (v.1 : Int) = V.int (x : Int) := of_decide_eq_true e
      have e2 : v.1 = x := by injection e1 with e1; omega
      unfold ST.otherEnd at q
      rw [if_pos e2] at q
      exact q
    · have e2 : ¬ v.1 = x := fun z => e (decide_eq_true (by rw [z]))
      unfold ST.otherEnd at q
      rw [if_neg e2] at q
      exact q
/-! ### row_of(places, ways) -/
abbrev sRowOf : Stmt := topS 4
theorem scRowOf : FnScope ["places", "ways", "found", "left", "turn", "place", "way", "one"] ["places", "ways"] (defScope sRowOf) := ⟨rfl, rfl, rfl, by decide +kernel, rfl, by decide +kernel, by decide +kernel⟩
def spRowOf (K : PySem.W.Frag) : Sp := fun vs H Q _ => ∃ (a : Addr) (ws : List ST.Way) (n : Nat), vs = [.int (n : Int), .ref a] ∧ IsWays K H a ws ∧ 2 ≤ n ∧ n ≤ 9 ∧ ST.Forest n ws ∧ ws.length + 1 = n ∧
  ∀ (H' : Hp) (p : Addr), Same H H' → H p = none → H' p = some (.lst (nVs (ST.rowOf n ws))) → Q (.ref p) H'
theorem dp_way {H : Hp} {p : Addr} {v : ST.Way} (h : WayAt H p v) : Dp K H (.ref p) (.tuple [.int (v.1 : Int), .int (v.2 : Int)]) := .tup (SqT.of h) (.cons (.int _) (.cons (.int _) .nil))
theorem eqv_way (v u : ST.Way) : PyData.eqv (.tuple [.int (v.1 : Int), .int (v.2 : Int)]) (.tuple [.int (u.1 : Int), .int (u.2 : Int)]) = decide (v = u) := by
  have e : PyData.eqv (.tuple [.int (v.1 : Int), .int (v.2 : Int)]) (.tuple [.int (u.1 : Int), .int (u.2 : Int)]) = (((v.1 : Int) == (u.1 : Int)) && (((v.2 : Int) == (u.2 : Int)) && true)) := by
    simp only [PyData.eqv, PyData.eqvAll]
  rw [e]
  by_cases h1 : v.1 = u.1
  · by_cases h2 : v.2 = u.2
    · have : v = u := Prod.ext h1 h2
      subst this
      simp
    · have h3 : ¬ v = u := fun z => h2 (by rw [z])
      rw [beq_eq_false_iff_ne.mpr (show ¬ (v.2 : Int) = (u.2 : Int) by omega), decide_eq_false h3]
      simp
  · have h3 : ¬ v = u := fun z => h1 (by rw [z])
    rw [beq_eq_false_iff_ne.mpr (show ¬ (v.1 : Int) = (u.1 : Int) by omega), decide_eq_false h3]
    simp
theorem ok_rowOf {f fW fL fO : Addr} {fd fdW fdL fdO : FuncData} (F : Fun K "row_of" "row_of" sRowOf f fd) (FW : Fun K "ways_at" "ways_at" sWaysAt fW fdW) (bW : Binds K fdW ["ways", "place"] []) (gW : mg "ways_at" = some (.ref fW))
    (FL : Fun K "least_end" "least_end" sLeast fL fdL) (bL : Binds K fdL ["places", "ways"] []) (gL : mg "least_end" = some (.ref fL)) (FO : Fun K "other_end" "other_end" sOther fO fdO) (bO : Binds K fdO ["way", "place"] []) (gO : mg "other_end" = some (.ref fO))
    (ml : mg "len" = none) (mr : mg "range" = none) (mli : mg "list" = none) : FnOk P w K mg base CX0 3 f fd ["places", "ways"] (spRowOf K) := by
  have GW : FnOk P w K mg base CX0 1 fW fdW ["ways", "place"] (spWaysAt K) := ok_waysAt FW
  have GL : FnOk P w K mg base CX0 2 fL fdL ["places", "ways"] (spLeast K) := ok_least (k := 0) FL FW bW gW ml mr
  have GO : FnOk P w K mg base CX0 1 fO fdO ["way", "place"] spOther := ok_other FO
  refine F.ok scRowOf (fun vs H Q E h => ?_) (fun cdv A outer s H vs Q E hr h => ?_)
  · obtain ⟨a, ws, n, rfl, _⟩ := h
    rfl
  · obtain ⟨a, ws, n, rfl, ⟨as, hS, hP⟩, hn2, hn9, hF, hl, q⟩ := h
    have hr1 : Room 1 _ := hr.mono (by decide)
    refine ⟨_, pss_cons (ps_set (i := 2) scRowOf.nd rfl (.inl rfl) (pe_lst pa_nil))
      (pss_cons (ps_set (i := 3) scRowOf.nd rfl (.inl rfl) (pe_callTy call_list_of (by rfl) mli (by decide +kernel) (pa_cons (pv 1) pa_nil)))
      (pss_cons (ps_for PassesOwn.never rfl (pi_range1 (by rfl) mr (pa_cons (pe_op op_sub (pv 0) pe_int) pa_nil)) (pg_name (i := 4) scRowOf.nd rfl (.inl rfl))
        (pss_cons (ps_set (i := 5) scRowOf.nd rfl (.inl rfl) (pe_call GL hr (by rfl) gL FL.kp bL .nil pass0 (pa_cons (pv 0) (pa_cons (pv 3) pa_nil))))
        (pss_cons (ps_set (i := 6) scRowOf.nd rfl (.inr rfl) (pe_ix ix_list (pe_call GW hr1 (by rfl) gW FW.kp bW .nil pass0 (pa_cons (pv 3) (pa_cons (pv 5) pa_nil))) pe_int (fun _ _ => rfl)))
        (pss_cons (ps_expr (pe_bm PySem.F.plainAttrs_list PySem.F.slot_list_append PySem.F.type_list_append mt_append (pv 2) (pa_cons (pe_call GO hr1 (by rfl) gO FO.kp bO .nil pass0 (pa_cons (pv 6) (pa_cons (pv 5) pa_nil))) pa_nil)))
        (pss_one (ps_setLc (i := 3) (own := [("one", 7)]) (g := gName 7) (tt := tTest (tOp (rNeD K) (tVar 7) (tVar 6))) (te := tVar 7) (by rfl) scRowOf.nd rfl rfl (sw_true rfl rfl rfl (by decide +kernel)) (pi_list (pv 3))
          (blkOk_by (own := [("one", 7)]) (N := ["places", "ways", "found", "left", "turn", "place", "way", "one"]) (sc := defScope sRowOf) (by decide +kernel))
          (fun _ _ _ _ _ => pg_name (i := 7) scRowOf.nd rfl (Or.inl rfl)) (fun _ _ _ _ _ => pts_one (pt_cmpR (op_neD hr.units) (pv 7) (pv 6) (nomark _))) (fun _ _ _ _ _ => pv 7)))))))
      (pss_one (ps_ret (pv 2))))), ?_⟩
    -- found = []
    refine ⟨Nat.zero_le _, fun o no => ?_⟩
    have s1 : Same H (upd H o (.lst [])) := same_upd no
    -- left = list(ways)
    refine ⟨_, rfl, a, _, rfl, .inl (s1.seq hS), fun la nla => ?_⟩
    have nlo : la ≠ o := fun e => by rw [e, upd_same] at nla; cases nla
    have nlH : H la = none := s1.free nla
    -- the loop
    refine ⟨_, rfl, (n : Int), 2, rfl, rfl, (n : Int) - 2, rfl, by omega, by omega, ?_⟩
    refine for_range (lo := 0) (n := ((n : Int) - 2).toNat) (fun i σ H1 => ∃ (lb : Addr) (bs : List Addr) (vs : List ST.Way) (fnd : List Nat) (y4 y5 y6 y7 : Option V), σ = [some (.int (n : Int)), some (.ref a), some (.ref o), some (.ref lb), y4, y5, y6, y7] ∧
      Same H H1 ∧ H1 o = some (.lst (nVs fnd)) ∧ H1 lb = some (.lst (bs.map V.ref)) ∧ Paired (WayAt H) bs vs ∧ lb ≠ o ∧ ST.Forest n vs ∧ vs.length + 1 + i = n ∧ fnd.length = i ∧ fnd ++ ST.rowGo n (n - 2 - i) vs = ST.rowOf n ws)
      ⟨la, as, ws, [], none, none, none, none, rfl, same_new s1 nlH, ?_, upd_same, hP, nlo, hF, by omega, rfl, rfl⟩ (fun i σ H1 hi h => ?_) (fun σ H1 h => ?_)
    · rw [upd_ne (Ne.symm nlo), upd_same]; rfl
    · obtain ⟨lb, bs, vs, fnd, y4, y5, y6, y7, rfl, sm, eo, eb, hB, nlb, hFv, hlv, hfl, heq⟩ := h
      have hi' : i < n - 2 := by omega
      have hne : vs ≠ [] := fun z => by rw [z] at hlv; simp at hlv; omega
      obtain ⟨x, wy, xs, e1, hx, e2, hw, hp, ef, hF2, hl2⟩ := ST.turn_ok hFv hne
      have hI : IsWays K H1 lb vs := ⟨bs, SqL.of eb, ways_same sm hB⟩
      -- place = least_end(places, left)
      refine ⟨_, rfl, _, rfl, lb, vs, n, x, xs, rfl, hI, by omega, hn9, e1, fun H2 s2 => ?_⟩
      have sm2 := sm.trans s2
      -- way = ways_at(left, place)[0]
      refine ⟨_, rfl, _, rfl, lb, vs, x, rfl, hI.same s2, by omega, fun H3 wp s3 nwp hwp => ?_⟩
      have sm3 := sm2.trans s3
      rw [e2] at hwp
      obtain ⟨cs, hC, hC2⟩ := hwp
      obtain ⟨pw, hpw, hpw2, hWy⟩ := ways_at_i hC2 (i := 0) (w := wy) rfl
      refine ⟨wp, _, _, _, rfl, rfl, hC, atI_nat (j := 0) hpw2, ?_⟩
      -- found.append(other_end(way, place))
      have eo3 := s3 _ _ (s2 _ _ eo)
      have eb3 := s3 _ _ (s2 _ _ eb)
      refine ⟨_, rfl, .inl ⟨rfl, _, SqL.of eo3⟩, _, rfl, _, rfl, pw, wy, x, rfl, hWy, o, _, _, rfl, rfl, eo3, by rw [nVs_len]; exact small (by omega), ?_⟩
      -- left = [one for one in left if one != way]
      have nlb3 : (upd H3 o (.lst (nVs fnd ++ [V.int ((ST.otherEnd wy x : Nat) : Int)]))) lb = some (.lst (bs.map V.ref)) := by rw [upd_ne nlb]; exact eb3
      refine ⟨_, rfl, lb, rfl, ⟨_, SqL.of nlb3⟩, fun D nD => ?_⟩
      have nDo : D ≠ o := fun e => by rw [e, upd_same] at nD; cases nD
      have nD3 : H3 D = none := by rw [upd_ne nDo] at nD; exact nD
      have nDH : H D = none := sm3.free nD3
      refine lc_list (K := K) (a := lb) (xs := bs.map V.ref) (fun j H4 => Same H H4 ∧ WayAt H4 pw wy ∧ H4 o = some (.lst (nVs fnd ++ [V.int ((ST.otherEnd wy x : Nat) : Int)])) ∧ H4 lb = some (.lst (bs.map V.ref)) ∧
        ∃ ds : List Addr, H4 D = some (.lst (ds.map V.ref)) ∧ Paired (WayAt H) ds ((vs.take j).filter fun v => decide (v ≠ wy)))
        ⟨?_, ?_, ?_, ?_, [], upd_same, .nil⟩ (fun j H4 _ h => SqL.of h.2.2.2.1) (fun j v H4 hv h => ?_) (fun H4 h => ?_)
      · exact same_new (same_new sm3 no) nDH
      · have npo : pw ≠ o := ne_of (show H3 pw = some _ from hWy) eo3 (by intro z; cases z)
        have h1 : (upd H3 o (.lst (nVs fnd ++ [V.int ((ST.otherEnd wy x : Nat) : Int)]))) pw = some (.tup [.int (wy.1 : Int), .int (wy.2 : Int)]) := by rw [upd_ne npo]; exact hWy
        exact upd_at h1 nD
      · rw [upd_ne (Ne.symm nDo), upd_same]
      · exact upd_at nlb3 nD
      · obtain ⟨sm4, hw4, eo4, eb4, ds, eD, hD⟩ := h
        obtain ⟨p, v', hp', rfl, hv', hV⟩ := ways_get hB hv
        refine ⟨rfl, _, rfl, _, rfl, _, _, dp_way (hV.same sm4), dp_way hw4, rfl, rfl, _, rfl, ?_⟩
        rw [eqv_way]
        have hl : ds.length ≤ 10 := by
          have h1 := Paired.length hD
          have h2 := List.length_filter_le (fun v => decide (v ≠ wy)) (vs.take j)
          have h3 : (vs.take j).length ≤ vs.length := by rw [List.length_take]; omega
          omega
        have nDH' : H D = none := nDH
        have noD : o ≠ D := Ne.symm nDo
        refine ite2 (fun e => ⟨_, rfl, _, eD, ?_, same_new sm4 nDH, ?_, ?_, ?_, ds ++ [p], ?_, ?_⟩) (fun e => ⟨sm4, hw4, eo4, eb4, ds, eD, ?_⟩)
        · rw [List.length_map]; exact small (by omega)
        · have : pw ≠ D := ne_of (show H4 pw = some _ from hw4) eD (by intro z; cases z)
          show (upd H4 D _) pw = _
          rw [upd_ne this]; exact hw4
        · rw [upd_ne noD]; exact eo4
        · have : lb ≠ D := fun z => by rw [z] at nlb3; rw [nD] at nlb3; cases nlb3
          rw [upd_ne this]; exact eb4
        · rw [upd_same, List.map_append]; rfl
        · have e' : v' ≠ wy := by simpa using e
          rw [take_more hv', List.filter_append, List.filter_cons, if_pos (decide_eq_true e'), List.filter_nil]
          exact Paired.snoc hD hV
        · have e' : ¬ decide (v' ≠ wy) = true := by simpa using e
          rw [take_more hv', List.filter_append, List.filter_cons, if_neg e', List.filter_nil, List.append_nil]
          exact hD
      · obtain ⟨sm4, hw4, eo4, eb4, ds, eD, hD⟩ := h
        rw [List.length_map, Paired.length hB, List.take_length] at hD
        refine ⟨D, ds, vs.filter (fun v => decide (v ≠ wy)), fnd ++ [ST.otherEnd wy x], _, _, _, _, rfl, sm4, ?_, eD, hD, nDo, hF2, by omega, by simp [hfl], ?_⟩
        · rw [eo4, nVs_app]; rfl
        · rw [← heq]
          have en : n - 2 - i = (n - 2 - (i + 1)) + 1 := by omega
          rw [en]
          simp only [ST.rowGo, e1, List.headD_cons, e2]
          rw [List.append_assoc]
          rfl
    · obtain ⟨lb, bs, vs, fnd, y4, y5, y6, y7, rfl, sm, eo, eb, hB, nlb, hFv, hlv, hfl, heq⟩ := h
      have en : ((n : Int) - 2).toNat = n - 2 := by omega
      rw [en, Nat.sub_self] at heq
      have e3 : fnd = ST.rowOf n ws := by rw [← heq]; show fnd = fnd ++ []; simp
      rw [e3] at eo
      exact ⟨_, rfl, q H1 o sm no eo⟩
end
end SP
end
section
set_option Elab.async false
set_option linter.all false
set_option maxRecDepth 100000
set_option maxHeartbeats 2000000
namespace SP
open PySem PySem.Spec PyProof.Rows L2
section
variable {P : Program} {w : World} {K : PySem.W.Frag} {mg : Str → Option Value} {base : Heap}
/-! ### lesser_first(one, other) -/
abbrev sLesser : Stmt := topS 5
theorem scLesser : FnScope ["one", "other"] ["one", "other"] (defScope sLesser) := ⟨rfl, rfl, rfl, by decide +kernel, rfl, by decide +kernel, by decide +kernel⟩
def spLesser : Sp := fun vs H Q _ => ∃ (a b : Nat), vs = [.int (a : Int), .int (b : Int)] ∧ ∀ (H' : Hp) (p : Addr), Same H H' → H p = none → WayAt H' p (ST.lesserFirst a b) → Q (.ref p) H'
theorem ok_lesser {f : Addr} {fd : FuncData} {k : Nat} (F : Fun K "lesser_first" "lesser_first" sLesser f fd) (mmin : mg "min" = none) (mmax : mg "max" = none) : FnOk P w K mg base CX0 (k + 1) f fd ["one", "other"] spLesser := by
  refine F.ok scLesser (fun vs H Q E h => ?_) (fun cdv A outer s H vs Q E hr h => ?_)
  · obtain ⟨a, b, rfl, _⟩ := h
    rfl
  · obtain ⟨a, b, rfl, q⟩ := h
    refine ⟨_, pss_one (ps_ret (pe_tup (pa_cons (pe_callB (call_min2 rfl) (by rfl) mmin (by decide +kernel) (pa_cons (pv 0) (pa_cons (pv 1) pa_nil))) (pa_cons (pe_callB (call_max2 rfl) (by rfl) mmax (by decide +kernel) (pa_cons (pv 0) (pa_cons (pv 1) pa_nil))) pa_nil)))), ?_⟩
    refine ⟨_, rfl, _, rfl, _, _, rfl, _, rfl, _, rfl, _, _, rfl, by show 2 ≤ sizeLine; decide, fun p np => ?_⟩
    refine q _ p (same_upd np) np ?_
    unfold WayAt ST.lesserFirst
    rw [upd_same]
    have e1 : (if (b : Int) < (a : Int) then (b : Int) else (a : Int)) = ((min a b : Nat) : Int) := by split <;> omega
    have e2 : (if (b : Int) > (a : Int) then (b : Int) else (a : Int)) = ((max a b : Nat) : Int) := by split <;> omega
    rw [e1, e2]
/-! ### sorted(found) -/
def keyAt (H : Hp) (v : V) : Int × Int := match v with
  | .ref t => match H t with
    | some (.tup [.int i, .int j]) => (i, j)
    | _ => (0, 0)
  | _ => (0, 0)
theorem keyAt_way {H : Hp} {p : Addr} {v : ST.Way} (h : WayAt H p v) : keyAt H (.ref p) = ((v.1 : Int), (v.2 : Int)) := by
  unfold keyAt
  simp only [show H p = some _ from h]
theorem paired_mem {H : Hp} {as : List Addr} {ws : List ST.Way} (h : Paired (WayAt H) as ws) : ∀ p ∈ as, ∃ v, WayAt H p v := by
  induction h with
  | nil => intro p hp; exact nomatch hp
  | @cons p v ps vs hh t ih =>
    intro q hq
    rcases List.mem_cons.mp hq with e | e
    · subst e; exact ⟨v, hh⟩
    · exact ih q e
def natP (q : Int × Int) : ST.Way := (q.1.toNat, q.2.toNat)
theorem paired_keys {H : Hp} {as : List Addr} {ws : List ST.Way} (h : Paired (WayAt H) as ws) : ws = as.map fun p => natP (keyAt H (.ref p)) := by
  induction h with
  | nil => rfl
  | @cons p v ps vs hh t ih =>
    rw [List.map_cons, ← ih, keyAt_way hh]
    rfl
theorem paired_of_keys {H : Hp} : ∀ {bs : List Addr}, (∀ p ∈ bs, ∃ v, WayAt H p v) → Paired (WayAt H) bs (bs.map fun p => natP (keyAt H (.ref p)))
  | [], _ => .nil
  | p :: bs, h => by
    obtain ⟨v, hv⟩ := h p List.mem_cons_self
    refine .cons ?_ (paired_of_keys fun q hq => h q (List.mem_cons_of_mem _ hq))
    show WayAt H p (natP (keyAt H (V.ref p)))
    rw [keyAt_way hv]
    exact hv
theorem refs_of : ∀ {ys : List V} {as : List Addr}, ys.Perm (as.map V.ref) → ∃ bs : List Addr, ys = bs.map V.ref ∧ bs.Perm as := by
  intro ys as p
  have h : ∀ (l : List V), (∀ y ∈ l, ∃ a, y = V.ref a) → ∃ bs : List Addr, l = bs.map V.ref := by
    intro l
    induction l with
    | nil => intro _; exact ⟨[], rfl⟩
    | cons y l ih =>
      intro hy
      obtain ⟨a, rfl⟩ := hy y List.mem_cons_self
      obtain ⟨bs, rfl⟩ := ih fun z hz => hy z (List.mem_cons_of_mem _ hz)
      exact ⟨a :: bs, rfl⟩
  obtain ⟨bs, rfl⟩ := h ys fun y hy => by
    obtain ⟨a, _, e⟩ := List.mem_map.mp (p.mem_iff.mp hy)
    exact ⟨a, e.symm⟩
  refine ⟨bs, rfl, ?_⟩
  have q := p.map (fun v : V => match v with | .ref a => a | _ => 0)
  rw [List.map_map, List.map_map] at q
  have e : ((fun v : V => match v with | .ref a => a | _ => 0) ∘ V.ref) = id := rfl
  rw [e, List.map_id, List.map_id] at q
  exact q
theorem sorted_ways {H : Hp} {as : List Addr} {ws : List ST.Way} (hP : Paired (WayAt H) as ws) {ys : List V} (h1 : SrtO.Srtd (ltP (keyAt H)) ys) (h2 : SrtO.Stb (ltP (keyAt H)) ys (as.map V.ref)) :
    ∃ bs : List Addr, ys = bs.map V.ref ∧ Paired (WayAt H) bs (Sq57.inOrder ws) := by
  obtain ⟨bs, rfl, pb⟩ := refs_of h2.perm
  have hb : ∀ p ∈ bs, ∃ v, WayAt H p v := fun p hp => paired_mem hP p (pb.mem_iff.mp hp)
  refine ⟨bs, rfl, ?_⟩
  have e : (bs.map fun p => natP (keyAt H (.ref p))) = Sq57.inOrder ws := by
    refine ST.inOrder_unique ?_ ?_
    · rw [paired_keys hP]
      exact pb.map _
    · have h1' : List.Pairwise (fun x y => ltP (keyAt H) y x = false) (bs.map V.ref) := h1
      rw [List.pairwise_map] at h1' ⊢
      refine List.Pairwise.imp_of_mem ?_ h1'
      intro p q hp hq hpq
      obtain ⟨v, hv⟩ := hb p hp
      obtain ⟨u, hu⟩ := hb q hq
      have z := SrtO.lexB_no.mp hpq
      rw [keyAt_way hv, keyAt_way hu] at z
      rw [keyAt_way hv, keyAt_way hu, ST.wle_iff]
      simp only [natP, Int.toNat_natCast] at z ⊢
      omega
  rw [← e]
  exact paired_of_keys hb
theorem cut_from (l : List Nat) (k : Nat) (h : k ≤ l.length) : cutV (nVs l) (some (k : Int)) none = nVs (l.drop k) := by
  unfold cutV
  rw [HT.sIx_nat, HT.sIx_none, nVs_len, Nat.min_eq_left h]
  unfold nVs
  rw [List.map_drop, List.take_of_length_le (by simp)]
theorem cut_to (l : List Nat) (k : Nat) : cutV (nVs l) none (some (k : Int)) = nVs (l.take k) := by
  unfold cutV
  rw [HT.sIx_nat, HT.sIx_none, nVs_len, Nat.sub_zero, List.drop_zero]
  unfold nVs
  rw [List.map_take]
  by_cases h : k ≤ l.length
  · rw [Nat.min_eq_left h]
  · rw [Nat.min_eq_right (by omega), List.take_of_length_le (by simp), List.take_of_length_le (by simp; omega)]
theorem inV_nat (x : Nat) : ∀ l : List Nat, inV (.int (x : Int)) (nVs l) = l.contains x
  | [] => rfl
  | y :: l => by
    have ih := inV_nat x l
    show (eqV (.int (y : Int)) (.int (x : Int)) || inV (.int (x : Int)) (nVs l)) = _
    rw [ih, eqV_nat, List.contains_cons, Bool.beq_comm]
theorem flat_nat (l : List Nat) : (nVs l).all flatV = true := by
  unfold nVs
  rw [List.all_map]
  exact List.all_eq_true.mpr fun _ _ => rfl
theorem nVs_int (l : List Nat) : nVs l = (ST.inL l).map V.int := by
  unfold nVs ST.inL
  rw [List.map_map]
  rfl
theorem inL_erase (x : Nat) : ∀ l : List Nat, (ST.inL l).erase (x : Int) = ST.inL (l.erase x)
  | [] => rfl
  | y :: l => by
    have ih := inL_erase x l
    show ((y : Int) :: ST.inL l).erase (x : Int) = ST.inL ((y :: l).erase x)
    rw [List.erase_cons, List.erase_cons]
    by_cases h : y = x
    · subst h
      rw [if_pos (by simp), if_pos (by simp)]
    · rw [if_neg (by rw [beq_iff_eq]; omega), if_neg (by rw [beq_iff_eq]; exact h), ih]
      rfl
/-! ### tree_of_row(places, row) -/
abbrev sTreeRow : Stmt := topS 6
theorem scTreeRow : FnScope ["places", "row", "found", "left", "at", "told", "place", "one"] ["places", "row"] (defScope sTreeRow) := ⟨rfl, rfl, rfl, by decide +kernel, rfl, by decide +kernel, by decide +kernel⟩
def spTreeRow (K : PySem.W.Frag) : Sp := fun vs H Q _ => ∃ (r : Addr) (row : List Nat) (n : Nat), vs = [.int (n : Int), .ref r] ∧ SqL K H r (nVs row) ∧ n ≤ 9 ∧ row.length + 2 = n ∧
  ∀ (H' : Hp) (p : Addr), Same H H' → H p = none → IsWays K H' p (Sq57.inOrder (ST.treeRow (List.range n) row)) → Q (.ref p) H'
theorem rg_range (n : Nat) : rgV 0 (n : Int) = nVs (List.range n) := by
  unfold rgV nVs
  have e : ((n : Int) - 0).toNat = n := by omega
  rw [e]
  refine List.map_congr_left fun i _ => ?_
  rw [Int.zero_add]
theorem ok_treeRow {f fL : Addr} {fd fdL : FuncData} (F : Fun K "tree_of_row" "tree_of_row" sTreeRow f fd) (FL : Fun K "lesser_first" "lesser_first" sLesser fL fdL) (bL : Binds K fdL ["one", "other"] []) (gL : mg "lesser_first" = some (.ref fL))
    (mmin : mg "min" = none) (mmax : mg "max" = none) (mr : mg "range" = none) (mli : mg "list" = none) (men : mg "enumerate" = none) (mso : mg "sorted" = none) : FnOk P w K mg base CX0 2 f fd ["places", "row"] (spTreeRow K) := by
  have GL : FnOk P w K mg base CX0 1 fL fdL ["one", "other"] spLesser := ok_lesser FL mmin mmax
  refine F.ok scTreeRow (fun vs H Q E h => ?_) (fun cdv A outer s H vs Q E hr h => ?_)
  · obtain ⟨r, row, n, rfl, _⟩ := h
    rfl
  · obtain ⟨r, row, n, rfl, hS, hn9, hl, q⟩ := h
    refine ⟨_, pss_cons (ps_set (i := 2) scTreeRow.nd rfl (.inl rfl) (pe_lst pa_nil))
      (pss_cons (ps_set (i := 3) scTreeRow.nd rfl (.inl rfl) (pe_listRg rfl (by rfl) mli (prg_1 (by rfl) mr (pv 0))))
      (pss_cons (ps_for PassesOwn.never rfl (pi_enum (by rfl) men (pa_cons (pv 1) pa_nil)) (pg_tup rfl (pgs_cons (pg_name (i := 4) scTreeRow.nd rfl (.inr rfl)) (pgs_cons (pg_name (i := 5) scTreeRow.nd rfl (.inl rfl)) pgs_nil)))
        (pss_cons (ps_set (i := 6) scTreeRow.nd rfl (.inl rfl) (pe_ix ix_list (pe_lc (own := [("one", 7)]) (g := gName 7) (tt := tTest (tOp (rIn K true) (tVar 7) (tSl (rSlL K) (tVar 1) (tPart (tVar 4)) tNoPart))) (te := tVar 7) (by rfl) scTreeRow.nd (pi_list (pv 3))
          (blkOk_by (own := [("one", 7)]) (N := ["places", "row", "found", "left", "at", "told", "place", "one"]) (sc := defScope sTreeRow) (by decide +kernel))
          (fun _ _ _ _ _ => pg_name (i := 7) scTreeRow.nd rfl (Or.inl rfl)) (fun _ _ _ _ _ => pts_one (pt_cmpR op_notIn_seq (pv 7) (pe_slice sl_list (pv 1) (po_some (pv 4)) po_none) (by rfl))) (fun _ _ _ _ _ => pv 7)) pe_int (fun _ _ => rfl)))
        (pss_cons (ps_expr (pe_bm PySem.F.plainAttrs_list PySem.F.slot_list_append PySem.F.type_list_append mt_append (pv 2) (pa_cons (pe_call GL hr (by rfl) gL FL.kp bL .nil pass0 (pa_cons (pv 6) (pa_cons (pv 5) pa_nil))) pa_nil)))
        (pss_one (ps_expr (pe_bm PySem.F.plainAttrs_list PySem.F.slot_list_remove PySem.F.type_list_remove mt_remove (pv 3) (pa_cons (pv 6) pa_nil)))))))
      (pss_cons (ps_expr (pe_bm PySem.F.plainAttrs_list PySem.F.slot_list_append PySem.F.type_list_append mt_append (pv 2) (pa_cons (pe_call GL hr (by rfl) gL FL.kp bL .nil pass0 (pa_cons (pe_ix ix_list (pv 3) pe_int (fun _ _ => rfl)) (pa_cons (pe_ix ix_list (pv 3) pe_int (fun _ _ => rfl)) pa_nil))) pa_nil)))
      (pss_one (ps_ret (pe_callB cr_sortedPO (by rfl) mso (by decide +kernel) (pa_cons (pv 2) pa_nil))))))), ?_⟩
    -- found = []; left = list(range(places))
    refine ⟨Nat.zero_le _, fun o no => ?_⟩
    refine ⟨_, rfl, (n : Int), rfl, RgOk.of_le (by omega) (by omega) (by omega) (by omega), fun la nla => ?_⟩
    have s1 : Same H (upd H o (.lst [])) := same_upd no
    have nlo : la ≠ o := fun e => by rw [e, upd_same] at nla; cases nla
    have nlH : H la = none := s1.free nla
    have s2 : Same H (upd (upd H o (.lst [])) la (.lst (rgV 0 (n : Int)))) := same_new s1 nlH
    -- the loop
    refine ⟨_, rfl, r, _, rfl, s2.seq hS, ?_⟩
    refine for_it (walk_enum (K := K) (a := r) (xs := nVs row)) (fun i σ H1 => ∃ (left : List Nat) (fs : List Addr) (fw : List ST.Way) (y4 y5 y6 y7 : Option V), σ = [some (.int (n : Int)), some (.ref r), some (.ref o), some (.ref la), y4, y5, y6, y7] ∧
      Same H H1 ∧ H1 o = some (.lst (fs.map V.ref)) ∧ Paired (WayAt H1) fs fw ∧ H1 la = some (.lst (nVs left)) ∧ left.Nodup ∧ left.length + i = n ∧ fw.length = i ∧ fw ++ ST.treeRow left (row.drop i) = ST.treeRow (List.range n) row)
      ⟨List.range n, [], [], none, none, none, none, rfl, s2, ?_, .nil, ?_, List.nodup_range, by simp, rfl, rfl⟩ (fun i σ H1 _ h => ?_) (fun i v σ H1 H1' hi h hy => ?_) (fun σ H1 h => ?_)
    · rw [upd_ne (Ne.symm nlo), upd_same]; rfl
    · rw [upd_same, rg_range]
    · obtain ⟨left, fs, fw, y4, y5, y6, y7, rfl, sm, _⟩ := h
      exact sm.seq hS
    · obtain ⟨left, fs, fw, y4, y5, y6, y7, rfl, sm, eo, hf, el, nd, hll, hfl, heq⟩ := h
      obtain ⟨T, x1, x2, rfl, nT, rfl, f1, f2⟩ := hy
      rw [nVs_len] at hi
      have ex1 : x1 = .int ((i : Nat) : Int) := (Option.some.inj f1).symm
      obtain ⟨p, hp, rfl⟩ := nVs_get' f2
      subst ex1
      have sT : Same H1 (upd H1 T (.tup [.int ((i : Nat) : Int), .int (p : Int)])) := same_upd nT
      have hdr : row.drop i = p :: row.drop (i + 1) := by
        rw [List.drop_eq_getElem_cons hi]
        congr 1
        rw [List.getElem?_eq_getElem hi] at hp
        exact Option.some.inj hp
      -- at, told = the pair
      refine ⟨T, _, rfl, SqT.of upd_same, rfl, _, _, rfl, _, _, rfl, rfl, ?_⟩
      -- place = [..][0]
      have el2 := sT _ _ el
      refine ⟨_, rfl, la, rfl, ⟨_, SqL.of el2⟩, fun D nD => ?_⟩
      have nDH1 : H1 D = none := sT.free nD
      have nDH : H D = none := sm.free nDH1
      refine lc_list (K := K) (a := la) (xs := nVs left) (fun j H4 => Same (upd H1 T (.tup [.int ((i : Nat) : Int), .int (p : Int)])) H4 ∧ H4 D = some (.lst (nVs (ST.cands (left.take j) (row.drop i)))))
        ⟨same_upd nD, upd_same⟩ (fun j H4 _ h => h.1.seq (SqL.of el2)) (fun j v H4 hv h => ?_) (fun H4 h => ?_)
      · obtain ⟨s4, eD⟩ := h
        obtain ⟨y, hyl, rfl⟩ := nVs_get' hv
        refine ⟨rfl, _, rfl, _, rfl, _, rfl, _, rfl, r, _, rfl, (sm.trans (sT.trans s4)).seq hS, fun c nc => ?_⟩
        rw [cut_from row i (by omega)]
        have s5 : Same H4 (upd H4 c (.lst (nVs (row.drop i)))) := same_upd nc
        refine ⟨c, _, rfl, .inl (SqL.of upd_same), rfl, flat_nat _, _, rfl, ?_⟩
        rw [inV_nat]
        have hlc : (ST.cands (left.take j) (row.drop i)).length ≤ 10 := by
          unfold ST.cands
          have h2 := List.length_filter_le (fun x => !(row.drop i).contains x) (left.take j)
          have h3 : (left.take j).length ≤ left.length := by rw [List.length_take]; omega
          omega
        have ec : ST.cands (left.take (j + 1)) (row.drop i) = ST.cands (left.take j) (row.drop i) ++ (if (!(row.drop i).contains y) = true then [y] else []) := by
          unfold ST.cands
          rw [take_more hyl, List.filter_append]
          congr 1
          rw [List.filter_cons, List.filter_nil]
        refine ite2 (fun e => ⟨_, rfl, _, s5 _ _ eD, by rw [nVs_len]; exact small (by omega), ?_, ?_⟩) (fun e => ⟨s4.trans s5, ?_⟩)
        · exact same_new (s4.trans s5) nD
        · have e' : (!(row.drop i).contains y) = true := e
          rw [upd_same, ec, if_pos e', nVs_app]; rfl
        · have e' : ¬ (!(row.drop i).contains y) = true := e
          rw [ec, if_neg e', List.append_nil]; exact s5 _ _ eD
      · obtain ⟨s4, eD⟩ := h
        rw [nVs_len, List.take_length] at eD
        obtain ⟨x, xs, ecx, hx, hxr⟩ := ST.cands_ok (row := row.drop i) nd (by rw [List.length_drop]; omega)
        rw [ecx] at eD
        refine ⟨D, _, _, _, rfl, rfl, SqL.of eD, atI_nat (j := 0) rfl, ?_⟩
        -- found.append(lesser_first(place, told))
        have s14 : Same H1 H4 := sT.trans s4
        have eo4 := s14 _ _ eo
        have el4 := s14 _ _ el
        refine ⟨_, rfl, .inl ⟨rfl, _, SqL.of eo4⟩, _, rfl, _, rfl, x, p, rfl, fun H5 t s5 nt ht => ?_⟩
        have eo5 := s5 _ _ eo4
        have el5 := s5 _ _ el4
        have hfs : fs.length = i := by rw [← hfl]; exact Paired.length hf
        refine ⟨o, _, _, rfl, rfl, eo5, by rw [List.length_map]; exact small (by omega), ?_⟩
        -- left.remove(place)
        have nlo5 : la ≠ o := nlo
        have el6 : (upd H5 o (.lst (fs.map V.ref ++ [V.ref t]))) la = some (.lst ((ST.inL left).map V.int)) := by
          rw [upd_ne nlo5, el5, nVs_int]
        have hxi : (x : Int) ∈ ST.inL left := List.mem_map.mpr ⟨x, hx, rfl⟩
        obtain ⟨j, j1, j2, j3, j4⟩ := first_at hxi
        refine ⟨_, rfl, .inl ⟨rfl, _, SqL.of el6⟩, _, rfl, la, ST.inL left, (x : Int), j, rfl, rfl, el6, j2, j3, ?_⟩
        rw [j4, inL_erase, ← nVs_int]
        have s15 : Same H1 H5 := s14.trans s5
        have hf5 : Paired (WayAt H5) (fs ++ [t]) (fw ++ [ST.lesserFirst x p]) := Paired.snoc (ways_same s15 hf) ht
        refine ⟨left.erase x, fs ++ [t], fw ++ [ST.lesserFirst x p], _, _, _, _, rfl, ?_, ?_, ?_, upd_same, nd.erase x, ?_, by simp [hfl], ?_⟩
        · exact same_new (same_new (sm.trans s15) no) nlH
        · rw [upd_ne (Ne.symm nlo), upd_same, List.map_append]; rfl
        · refine Paired.mapP hf5 fun b v hb => ?_
          have h1 : b ≠ o := ne_of (show H5 b = some _ from hb) eo5 (by intro z; cases z)
          have h2 : b ≠ la := ne_of (show H5 b = some _ from hb) el5 (by intro z; cases z)
          show (upd (upd H5 o _) la _) b = _
          rw [upd_ne h2, upd_ne h1]
          exact hb
        · rw [List.length_erase_of_mem hx]
          have : 1 ≤ left.length := List.length_pos_of_mem hx
          omega
        · rw [← heq, hdr]
          simp only [ST.treeRow]
          rw [hdr] at ecx
          rw [ecx, List.append_assoc]
          rfl
    · obtain ⟨left, fs, fw, y4, y5, y6, y7, rfl, sm, eo, hf, el, nd, hll, hfl, heq⟩ := h
      rw [nVs_len] at hll hfl heq
      rw [List.drop_length] at heq
      have hl2 : left.length = 2 := by omega
      match left, hl2 with
      | [u, v], _ =>
      have g0 : (nVs [u, v])[0]? = some (.int (u : Int)) := rfl
      have g1 : (nVs [u, v])[1]? = some (.int (v : Int)) := rfl
      refine ⟨_, rfl, .inl ⟨rfl, _, SqL.of eo⟩, _, rfl, la, _, _, _, rfl, rfl, SqL.of el, atI_nat (j := 0) g0, _, rfl, la, _, _, _, rfl, rfl, SqL.of el, atI_nat (j := 1) g1, u, v, rfl, fun H5 t s5 nt ht => ?_⟩
      have eo5 := s5 _ _ eo
      have hfs : fs.length = row.length := by rw [← hfl]; exact Paired.length hf
      refine ⟨o, _, _, rfl, rfl, eo5, by rw [List.length_map]; exact small (by omega), ?_⟩
      have hf5 : Paired (WayAt H5) (fs ++ [t]) (fw ++ [ST.lesserFirst u v]) := Paired.snoc (ways_same s5 hf) ht
      have hf6 : Paired (WayAt (upd H5 o (.lst (fs.map V.ref ++ [V.ref t])))) (fs ++ [t]) (fw ++ [ST.lesserFirst u v]) := by
        refine Paired.mapP hf5 fun b v hb => ?_
        have h1 : b ≠ o := ne_of (show H5 b = some _ from hb) eo5 (by intro z; cases z)
        show (upd H5 o _) b = _
        rw [upd_ne h1]
        exact hb
      have e6 : (upd H5 o (.lst (fs.map V.ref ++ [V.ref t]))) o = some (.lst ((fs ++ [t]).map V.ref)) := by rw [upd_same, List.map_append]; rfl
      have s6 : Same H (upd H5 o (.lst (fs.map V.ref ++ [V.ref t]))) := same_new (sm.trans s5) no
      generalize (upd H5 o (.lst (fs.map V.ref ++ [V.ref t]))) = H6 at hf6 e6 s6 ⊢
      refine ⟨_, rfl, o, _, keyAt H6, rfl, SqL.of e6, fun x hx => ?_, fun ys p h1 h2 np => ?_⟩
      · obtain ⟨b, hb, rfl⟩ := List.mem_map.mp hx
        obtain ⟨v', hv'⟩ := paired_mem hf6 b hb
        refine ⟨b, rfl, ?_⟩
        rw [keyAt_way hv']
        exact hv'
      · obtain ⟨bs, rfl, hbs⟩ := sorted_ways hf6 h1 h2
        refine q _ p (same_new s6 (s6.free np)) (s6.free np) ⟨bs, SqL.of upd_same, ?_⟩
        have e7 : fw ++ [ST.lesserFirst u v] = ST.treeRow (List.range n) row := heq
        rw [e7] at hbs
        exact ways_same (same_upd np) hbs
end
end SP
end
section
set_option Elab.async false
set_option linter.all false
set_option maxRecDepth 100000
set_option maxHeartbeats 4000000
namespace SP
open PySem PySem.Spec PyProof.Rows L2
/-! ### t * 0, t * 1 -/
theorem tuple_mul1 (l : Addr) (items : Array Value) (n : Nat) (dd : Option Addr) (sl : Array (Option Value)) (u : Tok) :
    Meets (Builtin.«tuple.__mul__» ⟨[.ref l, .int 1 u], []⟩) (fun _ R s => s.heap.get? l = some { cls := .type "tuple", dict := dd, data := .seq items n, slots := sl } ∧ R (.ok (.ret (Value.ref l))) s) :=
  Meets.of_wp fun pr wo A R s h => by
    obtain ⟨he, gg, dp, tt, oo⟩ := s
    obtain ⟨hget, h⟩ := h
    have f1 := AutoSeq1.idx_int
    have c0 : (decide ((1 : Int) < -(2 ^ 63)) || decide ((1 : Int) ≥ 2 ^ 63)) = false := by decide
    have c1 : (items.isEmpty || (1 : Int) == 1) = true := by simp
    wp_walk using wpAny_loadPart' hget
    repeat (first
      | (refine wpAny_ite_false (decide_eq_false (by rw [c0]; exact Bool.false_ne_true)) ?_; wp_walk using wpAny_loadPart' hget)
      | (refine wpAny_ite_true (decide_eq_true c1) ?_; wp_walk using wpAny_loadPart' hget))
    exact ⟨_, rfl, h⟩
theorem tuple_mul0 (l : Addr) (items : Array Value) (n : Nat) (dd : Option Addr) (sl : Array (Option Value)) (u : Tok) (hi : items.isEmpty = false) :
    Meets (Builtin.«tuple.__mul__» ⟨[.ref l, .int 0 u], []⟩) (fun _ R s => s.heap.get? l = some { cls := .type "tuple", dict := dd, data := .seq items n, slots := sl } ∧
      R (.ok (.ret (Value.ref s.heap.objs.size))) { s with heap := s.heap.push { cls := Value.type "tuple", data := Data.seq #[] }, toks := s.toks }) :=
  Meets.of_wp fun pr wo A R s h => by
    obtain ⟨he, gg, dp, tt, oo⟩ := s
    obtain ⟨hget, h⟩ := h
    have f1 := AutoSeq1.idx_int
    have c0 : (decide ((0 : Int) < -(2 ^ 63)) || decide ((0 : Int) ≥ 2 ^ 63)) = false := by decide
    have c1 : (items.isEmpty || (0 : Int) == 1) = false := by rw [hi]; rfl
    have c2 : (decide ((0 : Int) ≤ 0) || items.isEmpty) = true := by rw [hi]; rfl
    wp_walk using wpAny_loadPart' hget
    repeat (first
      | (refine wpAny_ite_false (decide_eq_false (by rw [c0]; exact Bool.false_ne_true)) ?_; wp_walk using wpAny_loadPart' hget)
      | (refine wpAny_ite_false (decide_eq_false (by rw [c1]; exact Bool.false_ne_true)) ?_; wp_walk using wpAny_loadPart' hget)
      | (refine wpAny_ite_true (decide_eq_true c2) ?_; wp_walk using wpAny_loadPart' hget))
    exact ⟨_, rfl, h⟩
/-- t * k, t of one item -/
def rRepB (K : PySem.W.Frag) : R2 := fun x y H Q => ∃ (l : Addr) (k : Nat) (z : V), x = .ref l ∧ y = .int (k : Int) ∧ H l = some (.tup [z]) ∧ k ≤ 1000 ∧ ∀ (H' : Hp) (p : Addr), Same H H' → H' p = some (.tup (List.replicate k z)) → Q (.ref p) H'
theorem op_repB {X : Cx} : OpR X (binaryOp .Mult) (rRepB X.K) := by
  intro pins s σ H x y v u Q I rx ry h
  obtain ⟨l, k, z, rfl, rfl, hT, hk, q⟩ := h
  by_cases h2 : 2 ≤ k
  · refine op_repT pins s σ H _ _ v u Q I rx ry ⟨l, (k : Int), [z], rfl, rfl, SqT.of hT, by simp, by omega, by omega, by simp, fun p np => q _ p (same_upd np) ?_⟩
    rw [upd_same, Int.toNat_natCast]
    congr 2
    have : ∀ m : Nat, (List.replicate m [z]).flatten = List.replicate m z := by
      intro m
      induction m with
      | zero => rfl
      | succ m ih => rw [List.replicate_succ, List.flatten_cons, ih, List.replicate_succ]; rfl
    exact this k
  · cases rx
    obtain ⟨t, rfl⟩ := ry
    obtain ⟨its, r, ⟨⟨cls, dd, data, sl⟩, ho, hc, n, hd⟩, hs⟩ := I.tuple (SqT.of hT)
    simp only at hc hd
    subst hc hd
    have hle : its.length = 1 := r.length.symm
    have hempty : its.toArray.isEmpty = false := by
      cases its with
      | nil => simp at hle
      | cons a b => rfl
    have h01 : k = 0 ∨ k = 1 := by omega
    rcases h01 with e | e
    · subst e
      refine wpAny_binaryOp_repeat_ref (T := "tuple") (U := "int") (by decide) ⟨_, ho, rfl⟩ (fun s' => typeIs_int s' 0 t) noFill_tuple_mul F.fills_int_mul F.slot_int_rmul repeat_tuple F.slot_int_index.lookup
        (call_meets F.slot_int_rmul (typeIs_int s 0 t) F.entry_int_rmul (F.args_int_rmul_2 _ _) (int_rmul_tuple 0 t l its.toArray n dd sl)
          ⟨ho, rfl, ⟨_, ho, rfl⟩, call_meets F.slot_tuple_mul ⟨_, ho, rfl⟩ F.entry_tuple_mul (F.args_tuple_mul_2 _ _) (tuple_mul0 l its.toArray n dd sl t hempty) ⟨ho, ?_⟩⟩)
      have hnew := I.hok.fresh (Nat.le_refl s.heap.objs.size)
      refine ⟨.ref s.heap.objs.size, _, I.laid (t' := s.toks) (o := .tup []) (fun b ob q => Heap.get?_push_of_some _ q) (Nat.le_refl _) ?_, rfl, q _ _ (same_upd hnew) upd_same⟩
      exact ⟨by simp, [], .nil, IsTup.new _ _⟩
    · subst e
      refine wpAny_binaryOp_repeat_ref (T := "tuple") (U := "int") (by decide) ⟨_, ho, rfl⟩ (fun s' => typeIs_int s' 1 t) noFill_tuple_mul F.fills_int_mul F.slot_int_rmul repeat_tuple F.slot_int_index.lookup
        (call_meets F.slot_int_rmul (typeIs_int s 1 t) F.entry_int_rmul (F.args_int_rmul_2 _ _) (int_rmul_tuple 1 t l its.toArray n dd sl)
          ⟨ho, rfl, ⟨_, ho, rfl⟩, call_meets F.slot_tuple_mul ⟨_, ho, rfl⟩ F.entry_tuple_mul (F.args_tuple_mul_2 _ _) (tuple_mul1 l its.toArray n dd sl t) ⟨ho, ?_⟩⟩)
      exact ⟨.ref l, H, I, rfl, q H l (Same.refl H) hT⟩
end SP
end
section
set_option Elab.async false
set_option linter.all false
set_option maxRecDepth 100000
set_option maxHeartbeats 4000000
namespace SP
open PySem PySem.Spec PyProof.Rows L2
section
variable {P : Program} {w : World} {K : PySem.W.Frag} {mg : Str → Option Value} {base : Heap}
/-! ### all_apart(many) -/
abbrev sApart : Stmt := topS 8
theorem scApart : FnScope ["many"] ["many"] (defScope sApart) := ⟨rfl, rfl, rfl, by decide +kernel, rfl, by decide +kernel, by decide +kernel⟩
def spApart : Sp := fun vs H Q _ => ∃ n : Nat, vs = [.int (n : Int)] ∧ n ≤ 1000 ∧ ∀ (H' : Hp) (p : Addr), Same H H' → H p = none → H' p = some (.lst (nVs (List.range n))) → Q (.ref p) H'
theorem ok_apart {f : Addr} {fd : FuncData} {k : Nat} (F : Fun K "all_apart" "all_apart" sApart f fd) (mr : mg "range" = none) (mli : mg "list" = none) : FnOk P w K mg base CX0 (k + 1) f fd ["many"] spApart := by
  refine F.ok scApart (fun vs H Q E h => ?_) (fun cdv A outer s H vs Q E hr h => ?_)
  · obtain ⟨n, rfl, _⟩ := h
    rfl
  · obtain ⟨n, rfl, hn, q⟩ := h
    refine ⟨_, pss_one (ps_ret (pe_listRg rfl (by rfl) mli (prg_1 (by rfl) mr (pv 0)))), ?_⟩
    refine ⟨_, rfl, (n : Int), rfl, RgOk.of_le (by omega) (by omega) (by omega) (by omega), fun p np => ?_⟩
    exact q _ p (same_upd np) np (by rw [upd_same, rg_range])
/-! ### merged(groups, one, other) -/
abbrev sMerged : Stmt := topS 9
theorem scMerged : FnScope ["groups", "one", "other", "least", "most", "found", "group"] ["groups", "one", "other"] (defScope sMerged) := ⟨rfl, rfl, rfl, by decide +kernel, rfl, by decide +kernel, by decide +kernel⟩
def spMerged (K : PySem.W.Frag) : Sp := fun vs H Q _ => ∃ (g : Addr) (gs : List Nat) (a b : Nat), vs = [.ref g, .int (a : Int), .int (b : Int)] ∧ SqL K H g (nVs gs) ∧ gs.length ≤ 1000 ∧ a < gs.length ∧ b < gs.length ∧
  ∀ (H' : Hp) (p : Addr), Same H H' → H p = none → H' p = some (.lst (nVs (ST.merged gs a b))) → Q (.ref p) H'
theorem cls_at {gs : List Nat} {a : Nat} (h : a < gs.length) : (nVs gs)[a]? = some (.int ((ST.cls gs a : Nat) : Int)) := nVs_get (ST.cls_get? h)
theorem ok_merged {f : Addr} {fd : FuncData} {k : Nat} (F : Fun K "merged" "merged" sMerged f fd) (mmin : mg "min" = none) (mmax : mg "max" = none) (mint : mg "int" = none) : FnOk P w K mg base CX0 (k + 1) f fd ["groups", "one", "other"] (spMerged K) := by
  refine F.ok scMerged (fun vs H Q E h => ?_) (fun cdv A outer s H vs Q E hr h => ?_)
  · obtain ⟨g, gs, a, b, rfl, _⟩ := h
    rfl
  · obtain ⟨g, gs, a, b, rfl, hS, hlen, ha, hb, q⟩ := h
    refine ⟨_, pss_cons (ps_par (by rfl) scMerged.nd (i := 3) (j := 4) rfl rfl (by decide) rfl rfl
        (pa_cons (pe_callB (call_min2 rfl) (by rfl) mmin (by decide +kernel) (pa_cons (pe_ix ix_list (pv 0) (pv 1) (fun _ _ => rfl)) (pa_cons (pe_ix ix_list (pv 0) (pv 2) (fun _ _ => rfl)) pa_nil)))
          (pa_cons (pe_callB (call_max2 rfl) (by rfl) mmax (by decide +kernel) (pa_cons (pe_ix ix_list (pv 0) (pv 1) (fun _ _ => rfl)) (pa_cons (pe_ix ix_list (pv 0) (pv 2) (fun _ _ => rfl)) pa_nil))) pa_nil)) (by rfl))
      (pss_cons (ps_set (i := 5) scMerged.nd rfl (.inl rfl) (pe_lst pa_nil))
      (pss_cons (ps_for PassesOwn.never rfl (pi_list (pv 0)) (pg_name (i := 6) scMerged.nd rfl (.inl rfl))
        (pss_one (ps_if (pt_cmpR op_eq (pv 6) (pv 4) (nomark _))
          (pss_one (ps_expr (pe_bm PySem.F.plainAttrs_list PySem.F.slot_list_append PySem.F.type_list_append mt_append (pv 5) (pa_cons (pv 3) pa_nil))))
          (pss_one (ps_expr (pe_bm PySem.F.plainAttrs_list PySem.F.slot_list_append PySem.F.type_list_append mt_append (pv 5) (pa_cons (pe_op op_sub (pv 6) (pe_callTy call_int1 (by rfl) mint (by decide +kernel) (pa_cons (pe_cmpR op_gt (pv 6) (pv 4) (nomark _)) pa_nil))) pa_nil)))))))
      (pss_one (ps_ret (pv 5))))), ?_⟩
    have ga := cls_at ha
    have gb := cls_at hb
    refine ⟨_, rfl, _, rfl, g, _, _, _, rfl, rfl, hS, atI_nat ga, _, rfl, _, rfl, g, _, _, _, rfl, rfl, hS, atI_nat gb, _, _, rfl, ?_⟩
    refine ⟨_, rfl, _, rfl, g, _, _, _, rfl, rfl, hS, atI_nat ga, _, rfl, _, rfl, g, _, _, _, rfl, rfl, hS, atI_nat gb, _, _, rfl, _, _, rfl, ?_⟩
    have e1 : (if ((ST.cls gs b : Nat) : Int) < ((ST.cls gs a : Nat) : Int) then ((ST.cls gs b : Nat) : Int) else ((ST.cls gs a : Nat) : Int)) = ((min (ST.cls gs a) (ST.cls gs b) : Nat) : Int) := by split <;> omega
    have e2 : (if ((ST.cls gs b : Nat) : Int) > ((ST.cls gs a : Nat) : Int) then ((ST.cls gs b : Nat) : Int) else ((ST.cls gs a : Nat) : Int)) = ((max (ST.cls gs a) (ST.cls gs b) : Nat) : Int) := by split <;> omega
    rw [e1, e2]
    -- found = []
    refine ⟨Nat.zero_le _, fun o no => ?_⟩
    have s1 : Same H (upd H o (.lst [])) := same_upd no
    refine ⟨_, rfl, g, rfl, ⟨_, s1.seq hS⟩, ?_⟩
    refine for_list (K := K) (a := g) (xs := nVs gs) (fun i σ H1 => ∃ y6, σ = [some (.ref g), some (.int (a : Int)), some (.int (b : Int)), some (.int ((min (ST.cls gs a) (ST.cls gs b) : Nat) : Int)), some (.int ((max (ST.cls gs a) (ST.cls gs b) : Nat) : Int)), some (.ref o), y6] ∧
      Same H H1 ∧ H1 o = some (.lst (nVs ((ST.merged gs a b).take i)))) ⟨none, rfl, s1, upd_same⟩ (fun i σ H1 _ h => ?_) (fun i v σ H1 hv h => ?_) (fun σ H1 h => ?_)
    · obtain ⟨y6, rfl, sm, _⟩ := h
      exact sm.seq hS
    · obtain ⟨y6, rfl, sm, eo⟩ := h
      obtain ⟨x, hx, rfl⟩ := nVs_get' hv
      have hlt : i < gs.length := (List.getElem?_eq_some_iff.mp hx).1
      have hm : (ST.merged gs a b)[i]? = some (ST.mergeTo (min (ST.cls gs a) (ST.cls gs b)) (max (ST.cls gs a) (ST.cls gs b)) x) := by
        unfold ST.merged
        rw [List.getElem?_map, hx]
        rfl
      have hsm : ∀ (z : Nat) (zi : Int), zi = (z : Int) → (ST.merged gs a b)[i]? = some z → (∃ y6, [some (V.ref g), some (.int (a : Int)), some (.int (b : Int)), some (.int ((min (ST.cls gs a) (ST.cls gs b) : Nat) : Int)), some (.int ((max (ST.cls gs a) (ST.cls gs b) : Nat) : Int)), some (.ref o), some (V.int (x : Int))] = [some (.ref g), some (.int (a : Int)), some (.int (b : Int)), some (.int ((min (ST.cls gs a) (ST.cls gs b) : Nat) : Int)), some (.int ((max (ST.cls gs a) (ST.cls gs b) : Nat) : Int)), some (.ref o), y6] ∧
          Same H (upd H1 o (.lst (nVs ((ST.merged gs a b).take i) ++ [V.int zi]))) ∧ (upd H1 o (.lst (nVs ((ST.merged gs a b).take i) ++ [V.int zi]))) o = some (.lst (nVs ((ST.merged gs a b).take (i + 1))))) := fun z zi ez hz =>
        ⟨_, rfl, same_new sm no, by rw [upd_same, take_more hz, nVs_app, ez]; rfl⟩
      have hlen2 : ((nVs ((ST.merged gs a b).take i))).length < sizeLine := by
        rw [nVs_len, List.length_take]; exact small (by omega)
      refine ⟨_, rfl, _, rfl, rfl, _, rfl, ite2 (fun e => ?_) (fun e => ?_)⟩
      · refine ⟨_, rfl, .inl ⟨rfl, _, SqL.of eo⟩, _, rfl, o, _, _, rfl, rfl, eo, hlen2, ?_⟩
        have e3 : V.int (x : Int) = V.int ((max (ST.cls gs a) (ST.cls gs b) : Nat) : Int) := of_decide_eq_true e
        have e4 : x = max (ST.cls gs a) (ST.cls gs b) := by injection e3 with e3; omega
        refine hsm _ _ rfl ?_
        rw [hm]
        unfold ST.mergeTo
        rw [if_pos e4]
      · have e4 : ¬ x = max (ST.cls gs a) (ST.cls gs b) := fun z => e (decide_eq_true (by rw [z]))
        refine ⟨_, rfl, .inl ⟨rfl, _, SqL.of eo⟩, _, rfl, _, rfl, _, rfl, _, _, rfl, rfl, .inr ⟨_, rfl, _, _, rfl, rfl, o, _, _, rfl, rfl, eo, hlen2, ?_⟩⟩
        have e5 : (x : Int) - (if decide (((max (ST.cls gs a) (ST.cls gs b) : Nat) : Int) < (x : Int)) = true then (1 : Int) else 0) = ((ST.mergeTo (min (ST.cls gs a) (ST.cls gs b)) (max (ST.cls gs a) (ST.cls gs b)) x : Nat) : Int) := by
          unfold ST.mergeTo
          rw [if_neg e4]
          by_cases c : max (ST.cls gs a) (ST.cls gs b) < x
          · rw [if_pos (by simpa using (show ((max (ST.cls gs a) (ST.cls gs b) : Nat) : Int) < (x : Int) by omega)), if_pos c]; omega
          · rw [if_neg (by simpa using (show ¬ ((max (ST.cls gs a) (ST.cls gs b) : Nat) : Int) < (x : Int) by omega)), if_neg c]; omega
        exact hsm _ _ e5 hm
    · obtain ⟨y6, rfl, sm, eo⟩ := h
      rw [nVs_len] at eo
      have e6 : (ST.merged gs a b).take gs.length = ST.merged gs a b := List.take_of_length_le (by simp [ST.merged])
      rw [e6] at eo
      exact ⟨_, rfl, q H1 o sm no eo⟩
/-! ### merged_by(groups, ways) -/
abbrev sMergedBy : Stmt := topS 10
theorem scMergedBy : FnScope ["groups", "ways", "found", "one", "other"] ["groups", "ways"] (defScope sMergedBy) := ⟨rfl, rfl, rfl, by decide +kernel, rfl, by decide +kernel, by decide +kernel⟩
def spMergedBy (K : PySem.W.Frag) : Sp := fun vs H Q _ => ∃ (g a : Addr) (gs : List Nat) (ws : List ST.Way) (n k : Nat), vs = [.ref g, .ref a] ∧ SqL K H g (nVs gs) ∧ IsWays K H a ws ∧ n ≤ 1000 ∧ ST.GOk n k gs ∧ ST.Ins n ws ∧
  (ST.mergedBy gs ws = none → ∀ H', Same H H' → Q .non H') ∧ (∀ gs', ST.mergedBy gs ws = some gs' → ∀ (H' : Hp) (p : Addr), Same H H' → SqL K H' p (nVs gs') → Q (.ref p) H')
theorem ok_mergedBy {f fM : Addr} {fd fdM : FuncData} (F : Fun K "merged_by" "merged_by" sMergedBy f fd) (FM : Fun K "merged" "merged" sMerged fM fdM) (bM : Binds K fdM ["groups", "one", "other"] []) (gM : mg "merged" = some (.ref fM))
    (mmin : mg "min" = none) (mmax : mg "max" = none) (mint : mg "int" = none) : FnOk P w K mg base CX0 2 f fd ["groups", "ways"] (spMergedBy K) := by
  have GM : FnOk P w K mg base CX0 1 fM fdM ["groups", "one", "other"] (spMerged K) := ok_merged FM mmin mmax mint
  refine F.ok scMergedBy (fun vs H Q E h => ?_) (fun cdv A outer s H vs Q E hr h => ?_)
  · obtain ⟨g, a, gs, ws, n, k, rfl, _⟩ := h
    rfl
  · obtain ⟨g, a, gs, ws, n, k, rfl, hS, ⟨as, hA, hP⟩, hn, G, hI, q0, q1⟩ := h
    refine ⟨_, pss_cons (ps_set (i := 2) scMergedBy.nd rfl (.inl rfl) (pv 0))
      (pss_cons (ps_for PassesOwn.never rfl (pi_list (pv 1)) (pg_tup rfl (pgs_cons (pg_name (i := 3) scMergedBy.nd rfl (.inl rfl)) (pgs_cons (pg_name (i := 4) scMergedBy.nd rfl (.inl rfl)) pgs_nil)))
        (pss_cons (ps_if (pt_cmpR op_eq (pe_ix ix_list (pv 2) (pv 3) (fun _ _ => rfl)) (pe_ix ix_list (pv 2) (pv 4) (fun _ _ => rfl)) (nomark _)) (pss_one (ps_ret pe_non)) pss_nil)
        (pss_one (ps_set (i := 2) scMergedBy.nd rfl (.inl rfl) (pe_call GM hr (by rfl) gM FM.kp bM .nil pass0 (pa_cons (pv 2) (pa_cons (pv 3) (pa_cons (pv 4) pa_nil)))))))) 
      (pss_one (ps_ret (pv 2)))), ?_⟩
    refine ⟨_, rfl, ?_⟩
    refine ⟨_, rfl, a, rfl, ⟨_, hA⟩, ?_⟩
    refine for_list (K := K) (a := a) (xs := as.map V.ref) (fun i σ H1 => ∃ (p : Addr) (hs : List Nat) (j : Nat) (y3 y4 : Option V), σ = [some (.ref g), some (.ref a), some (.ref p), y3, y4] ∧ Same H H1 ∧ SqL K H1 p (nVs hs) ∧ ST.GOk n j hs ∧ ST.mergedBy gs ws = ST.mergedBy hs (ws.drop i))
      ⟨g, gs, k, none, none, rfl, Same.refl H, hS, G, rfl⟩ (fun i σ H1 _ h => ?_) (fun i v σ H1 hv h => ?_) (fun σ H1 h => ?_)
    · obtain ⟨p, hs, j, y3, y4, rfl, sm, _⟩ := h
      exact sm.seq hA
    · obtain ⟨p, hs, j, y3, y4, rfl, sm, hp, Gj, heq⟩ := h
      obtain ⟨t, u, ht, rfl, hu, hU⟩ := ways_get hP hv
      have hil : i < ws.length := (List.getElem?_eq_some_iff.mp hu).1
      have hd : ws.drop i = u :: ws.drop (i + 1) := by
        rw [List.drop_eq_getElem_cons hil]
        congr 1
        rw [List.getElem?_eq_getElem hil] at hu
        exact Option.some.inj hu
      have iu := hI u (List.mem_of_getElem? hu)
      refine ⟨t, _, rfl, SqT.of (hU.same sm), rfl, _, _, rfl, _, _, rfl, rfl, ?_⟩
      have g1 := cls_at (gs := hs) (a := u.1) (by rw [Gj.len]; exact iu.1)
      have g2 := cls_at (gs := hs) (a := u.2) (by rw [Gj.len]; exact iu.2)
      refine ⟨_, rfl, _, rfl, p, _, _, _, rfl, rfl, hp, atI_nat g1, _, rfl, _, rfl, p, _, _, _, rfl, rfl, hp, atI_nat g2, rfl, _, rfl, ite2 (fun e => ?_) (fun e => ?_)⟩
      · have e1 : V.int ((ST.cls hs u.1 : Nat) : Int) = V.int ((ST.cls hs u.2 : Nat) : Int) := of_decide_eq_true e
        have e2 : ST.cls hs u.1 = ST.cls hs u.2 := by injection e1 with e1; omega
        refine q0 ?_ H1 sm
        rw [heq, hd]
        simp only [ST.mergedBy]
        rw [if_pos e2]
      · have e2 : ¬ ST.cls hs u.1 = ST.cls hs u.2 := fun z => e (decide_eq_true (by rw [z]))
        refine ⟨_, rfl, _, rfl, _, rfl, p, hs, u.1, u.2, rfl, hp, by rw [Gj.len]; omega, by rw [Gj.len]; exact iu.1, by rw [Gj.len]; exact iu.2, fun H2 p2 s2 np2 hp2 => ?_⟩
        refine ⟨p2, ST.merged hs u.1 u.2, j - 1, _, _, rfl, sm.trans s2, SqL.of hp2, Gj.merged iu.1 iu.2 e2, ?_⟩
        rw [heq, hd]
        simp only [ST.mergedBy]
        rw [if_neg e2]
    · obtain ⟨p, hs, j, y3, y4, rfl, sm, hp, Gj, heq⟩ := h
      rw [List.length_map, Paired.length hP, List.drop_length] at heq
      exact ⟨_, rfl, q1 hs heq H1 p sm hp⟩
/-! ### taken_behind(used, column, many) -/
abbrev sTaken : Stmt := topS 12
theorem scTaken : FnScope ["used", "column", "many", "place"] ["used", "column", "many"] (defScope sTaken) := ⟨rfl, rfl, rfl, by decide +kernel, rfl, by decide +kernel, by decide +kernel⟩
def spTaken : Sp := fun vs H Q _ => ∃ (u : Addr) (us : ST.BK) (c : Nat), vs = [.ref u, .int (c : Int), .int (us.length : Int)] ∧ H u = some (.tup (us.map V.bl)) ∧ us.length ≤ 1000 ∧ c < us.length ∧
  ∀ (H' : Hp), Same H H' → Q (.int ((ST.ct (us.drop (c + 1)) : Nat) : Int)) H'
theorem ok_taken {f : Addr} {fd : FuncData} {k : Nat} (F : Fun K "taken_behind" "taken_behind" sTaken f fd) (ml : mg "len" = none) (mr : mg "range" = none) : FnOk P w K mg base CX0 (k + 1) f fd ["used", "column", "many"] spTaken := by
  refine F.ok scTaken (fun vs H Q E h => ?_) (fun cdv A outer s H vs Q E hr h => ?_)
  · obtain ⟨u, us, c, rfl, _⟩ := h
    rfl
  · obtain ⟨u, us, c, rfl, hU, hlen, hc, q⟩ := h
    refine ⟨_, pss_one (ps_ret (pe_callB call_len_seq (by rfl) ml PySem.boot_len (pa_cons (pe_lc (own := [("place", 3)]) (g := gName 3) (tt := tB (tOp (rIxT K) (tVar 0) (tVar 3))) (te := tVar 3) (by rfl) scTaken.nd (pi_range2 (by rfl) mr (pa_cons (pe_op op_add (pv 1) pe_int) (pa_cons (pv 2) pa_nil)))
      (blkOk_by (own := [("place", 3)]) (N := ["used", "column", "many", "place"]) (sc := defScope sTaken) (by decide +kernel))
      (fun _ _ _ _ _ => pg_name (i := 3) scTaken.nd rfl (Or.inl rfl)) (fun _ _ _ _ _ => pts_one (pt_val (pe_ix ix_tup (pv 0) (pv 3) (fun _ _ => rfl)))) (fun _ _ _ _ _ => pv 3)) pa_nil))), ?_⟩
    refine ⟨_, rfl, _, _, rfl, rfl, _, rfl, _, _, rfl, ⟨by omega, by omega, by omega, by omega⟩, fun D nD => ?_⟩
    refine lc_range (lo := (c : Int) + 1) (n := ((us.length : Int) - ((c : Int) + 1)).toNat) (fun i H1 => Same H H1 ∧ ∃ acc : List V, H1 D = some (.lst acc) ∧ acc.length = ST.ct ((us.drop (c + 1)).take i) ∧ acc.length ≤ i)
      ⟨same_upd nD, [], upd_same, rfl, Nat.le_refl _⟩ (fun i H1 hi h => ?_) (fun H1 h => ?_)
    · obtain ⟨sm, acc, eD, hacc, hle⟩ := h
      have hi' : c + 1 + i < us.length := by omega
      have ei : (c : Int) + 1 + (i : Int) = ((c + 1 + i : Nat) : Int) := by omega
      rw [ei]
      have gU : (us.map V.bl)[c + 1 + i]? = some (.bl us[c + 1 + i]) := by rw [List.getElem?_map, List.getElem?_eq_getElem hi']; rfl
      refine ⟨rfl, _, rfl, _, rfl, u, _, _, _, rfl, rfl, SqT.of (sm _ _ hU), atI_nat gU, _, rfl, ?_⟩
      have et : (us.drop (c + 1))[i]? = some us[c + 1 + i] := by rw [List.getElem?_drop]; exact List.getElem?_eq_getElem hi'
      refine ite2 (fun e => ⟨_, rfl, _, eD, small (by omega), same_new sm nD, _, upd_same, ?_, ?_⟩) (fun e => ⟨sm, acc, eD, ?_, by omega⟩)
      · rw [take_more et, ST.ct_append, e, List.length_append, hacc]; rfl
      · rw [List.length_append]; simp; omega
      · have e' : us[c + 1 + i] = false := by simpa using e
        rw [take_more et, ST.ct_append, e', hacc]; rfl
    · obtain ⟨sm, acc, eD, hacc, hle⟩ := h
      have en : ((us.length : Int) - ((c : Int) + 1)).toNat = us.length - (c + 1) := by omega
      have et : (us.drop (c + 1)).take ((us.length : Int) - ((c : Int) + 1)).toNat = us.drop (c + 1) := List.take_of_length_le (by rw [List.length_drop, en]; exact Nat.le_refl _)
      rw [et] at hacc
      refine ⟨D, _, rfl, .inl (SqL.of eD), ?_⟩
      rw [hacc]
      exact q H1 sm
end
end SP
end
section
set_option Elab.async false
set_option linter.all false
set_option maxRecDepth 100000
set_option maxHeartbeats 4000000
namespace SP
open PySem PySem.Spec PyProof.Rows L2
/-! ### a table of numbers, row by row -/
def rowV (n : Nat) (f : Nat → Int) : List V := (List.range n).map fun j => V.int (f j)
theorem rowV_len (n : Nat) (f : Nat → Int) : (rowV n f).length = n := by unfold rowV; simp
theorem rowV_get {n j : Nat} (f : Nat → Int) (h : j < n) : (rowV n f)[j]? = some (.int (f j)) := by unfold rowV; simp [h]
theorem rowV_set (n y : Nat) (f : Nat → Int) (z : Int) : (rowV n f).set y (.int z) = rowV n (fun j => if j = y then z else f j) := by
  refine List.ext_getElem? fun i => ?_
  by_cases hi : i < n
  · rw [rowV_get _ hi]
    by_cases e : i = y
    · subst e
      rw [List.getElem?_set_self (by rw [rowV_len]; exact hi), if_pos rfl]
    · rw [List.getElem?_set_ne (Ne.symm e), rowV_get _ hi, if_neg e]
  · rw [List.getElem?_eq_none (by rw [List.length_set, rowV_len]; omega), List.getElem?_eq_none (by rw [rowV_len]; omega)]
structure Mat (H0 H : Hp) (R : Addr) (n : Nat) (M : Nat → Nat → Int) (rs : List Addr) : Prop where
  same : Same H0 H
  new : H0 R = none
  at_ : H R = some (.lst (rs.map V.ref))
  len : rs.length = n
  nd : rs.Nodup
  news : ∀ p ∈ rs, H0 p = none
  rows : ∀ (i : Nat) (p : Addr), rs[i]? = some p → H p = some (.lst (rowV n (M i)))
def bump (M : Nat → Nat → Int) (x y : Nat) (c : Int) : Nat → Nat → Int := fun i j => if i = x ∧ j = y then M i j + c else M i j
theorem mat_ne {H0 H : Hp} {R : Addr} {n : Nat} {M : Nat → Nat → Int} {rs : List Addr} (m : Mat H0 H R n M rs) {p : Addr} (hp : p ∈ rs) : R ≠ p := by
  intro e
  obtain ⟨i, hi, ei⟩ := List.getElem_of_mem hp
  have h1 := m.rows i p (by rw [List.getElem?_eq_getElem hi, ei])
  rw [← e, m.at_] at h1
  have h2 : rs.map V.ref = rowV n (M i) := by injection h1 with h1; injection h1
  have h3 := congrArg (fun l => l[0]?) h2
  have hn : 0 < n := by rw [← m.len]; omega
  simp only [rowV_get _ hn] at h3
  rw [List.getElem?_map, List.getElem?_eq_getElem (by omega)] at h3
  cases h3
theorem mat_bump {H0 H : Hp} {R : Addr} {n : Nat} {M : Nat → Nat → Int} {rs : List Addr} (m : Mat H0 H R n M rs) {x y : Nat} {p : Addr} (hx : rs[x]? = some p) {c z : Int} (hz : z = M x y + c) :
    Mat H0 (upd H p (.lst ((rowV n (M x)).set y (.int z)))) R n (bump M x y c) rs := by
  have hp : p ∈ rs := List.mem_of_getElem? hx
  refine ⟨same_new m.same (m.news p hp), m.new, ?_, m.len, m.nd, m.news, fun i q hq => ?_⟩
  · rw [upd_ne (mat_ne m hp)]; exact m.at_
  · by_cases e : i = x
    · subst e
      rw [hx] at hq
      cases hq
      rw [upd_same, rowV_set]
      congr 2
      unfold rowV bump
      refine List.map_congr_left fun j _ => ?_
      show V.int (if j = y then z else M i j) = _
      by_cases ej : j = y
      · subst ej; rw [if_pos rfl, if_pos ⟨rfl, rfl⟩, hz]
      · rw [if_neg ej, if_neg (fun q => ej q.2)]
    · have hne : q ≠ p := fun z => e (by
        subst z
        exact nd_ix m.nd hq hx)
      rw [upd_ne hne, m.rows i q hq]
      congr 2
      unfold rowV bump
      refine List.map_congr_left fun j _ => ?_
      rw [if_neg (fun q => e q.1)]
theorem bump4 (M : Nat → Nat → Int) {a b : Nat} (h : a ≠ b) : bump (bump (bump (bump M a a 1) b b 1) a b (-1)) b a (-1) = fun i j => (ST.ind a i - ST.ind b i) * (ST.ind a j - ST.ind b j) + M i j := by
  funext i j
  unfold bump ST.ind
  by_cases h1 : a = i <;> by_cases h2 : b = i <;> by_cases h3 : a = j <;> by_cases h4 : b = j
  all_goals (try subst h1)
  all_goals (try subst h2)
  all_goals (try subst h3)
  all_goals (try subst h4)
  all_goals simp_all
  all_goals (try omega)
  all_goals (repeat' split)
  all_goals (try simp_all)
  all_goals (try omega)
theorem ixN_of {n j : Nat} (h : j < n) : ixN n (j : Int) = some j := by
  unfold ixN
  rw [if_pos (by omega), if_pos (by omega)]
  simp
theorem paired_imp {α β : Type} {R S : α → β → Prop} {l : List α} {m : List β} (h : Paired R l m) : (∀ a b, a ∈ l → R a b → S a b) → Paired S l m := by
  induction h with
  | nil => intro _; exact .nil
  | @cons a b l m r t ih => intro f; exact .cons (f a b List.mem_cons_self r) (ih fun x y hx hr => f x y (List.mem_cons_of_mem _ hx) hr)
theorem refs_ints {bs : List Addr} {r : List Int} {q : Addr} (hq : q ∈ bs) (h : bs.map V.ref = r.map V.int) : False := by
  cases bs with
  | nil => exact nomatch hq
  | cons b bs =>
    cases r with
    | nil => cases h
    | cons x r => rw [List.map_cons, List.map_cons] at h; injection h with h1; cases h1
section
variable {P : Program} {w : World} {K : PySem.W.Frag} {mg : Str → Option Value} {base : Heap}
def IsRows (K : PySem.W.Frag) (H : Hp) (p : Addr) (rows : List (List Int)) : Prop := ∃ rs : List Addr, SqL K H p (rs.map V.ref) ∧ Paired (fun q (r : List Int) => H q = some (.lst (r.map V.int))) rs rows
theorem IsRows.same {H H' : Hp} {p : Addr} {rows : List (List Int)} (s : Same H H') (h : IsRows K H p rows) : IsRows K H' p rows := by
  obtain ⟨rs, h1, h2⟩ := h
  exact ⟨rs, s.seq h1, Paired.mapP h2 fun _ _ q => s _ _ q⟩
abbrev sRowsOf : Stmt := topS 11
theorem scRowsOf : FnScope ["groups", "ways", "many", "rows", "one", "other", "a", "b", "row", "column"] ["groups", "ways"] (defScope sRowsOf) := ⟨rfl, rfl, rfl, by decide +kernel, rfl, by decide +kernel, by decide +kernel⟩
def spRowsOf (K : PySem.W.Frag) : Sp := fun vs H Q _ => ∃ (g a : Addr) (gs : List Nat) (ws : List ST.Way) (n m : Nat), vs = [.ref g, .ref a] ∧ SqL K H g (nVs gs) ∧ IsWays K H a ws ∧ n ≤ 1000 ∧ ST.GOk n (m + 1) gs ∧ ST.Ins n ws ∧
  ∀ (H' : Hp) (p : Addr), Same H H' → IsRows K H' p (ST.rowsOf m gs ws) → Q (.ref p) H'
abbrev tPlus1 (i : Nat) : TE := tOp (rI0 fun i j => .int (i + j)) (tVar i) (tC (.int 1))
def outerScope : Scope := { kind := .function, names := [(".0", .local), ("row", .local), ("range", .globalImplicit), ("many", .free)], isGenerator := false, isCoroutine := false }
theorem ok_rowsOf {f : Addr} {fd : FuncData} {k : Nat} (F : Fun K "rows_of" "rows_of" sRowsOf f fd) (mmax : mg "max" = none) (mr : mg "range" = none) : FnOk P w K mg base CX0 (k + 1) f fd ["groups", "ways"] (spRowsOf K) := by
  refine F.ok scRowsOf (fun vs H Q E h => ?_) (fun cdv A outer s H vs Q E hr h => ?_)
  · obtain ⟨g, a, gs, ws, n, m, rfl, _⟩ := h
    rfl
  · obtain ⟨g, a, gs, ws, n, m, rfl, hS, ⟨as, hA, hP⟩, hn, G, hI, q⟩ := h
    refine ⟨_, pss_cons (ps_set (i := 2) scRowsOf.nd rfl (.inr rfl) (pe_callB (cr_max rfl) (by rfl) mmax (by decide +kernel) (pa_cons (pv 0) pa_nil)))
      (pss_cons (ps_setLc (i := 3) (own := [("row", 8)]) (g := gName 8) (tt := tYes) (te := tLc (iRng1 (tCons (tPlus1 2) tNil)) (gName 9) tYes (tC (.int 0)) [9]) (by rfl) scRowsOf.nd rfl rfl (sw_true rfl rfl rfl (by decide +kernel))
          (pi_range1 (by rfl) mr (pa_cons (pe_op op_add (pv 2) pe_int) pa_nil))
          (blkOk_by (own := [("row", 8)]) (N := ["groups", "ways", "many", "rows", "one", "other", "a", "b", "row", "column"]) (sc := defScope sRowsOf) (by decide +kernel))
          (fun _ _ _ _ _ => pg_name (i := 8) scRowsOf.nd rfl (Or.inl rfl)) (fun _ _ _ _ _ => pts_nil)
          (fun _ _ _ _ _ => pe_lc (own := [("column", 9)]) (g := gName 9) (tt := tYes) (te := tC (.int 0)) (by rfl) scRowsOf.nd (pi_range1 (by rfl) mr (pa_cons (pe_op op_add (pv 2) pe_int) pa_nil))
            (blkOk_by (own := [("column", 9)]) (N := ["groups", "ways", "many", "rows", "one", "other", "a", "b", "row", "column"]) (sc := { kind := .function, names := [(".0", .local), ("row", .local), ("range", .globalImplicit), ("many", .cell)], isGenerator := false, isCoroutine := false }) (by decide +kernel))
            (fun _ _ _ _ _ => pg_name (i := 9) scRowsOf.nd rfl (Or.inl rfl)) (fun _ _ _ _ _ => pts_nil) (fun _ _ _ _ _ => pe_int)))
      (pss_cons (ps_for PassesOwn.never rfl (pi_list (pv 1)) (pg_tup rfl (pgs_cons (pg_name (i := 4) scRowsOf.nd rfl (.inl rfl)) (pgs_cons (pg_name (i := 5) scRowsOf.nd rfl (.inl rfl)) pgs_nil)))
        (pss_cons (ps_par (by rfl) scRowsOf.nd (i := 6) (j := 7) rfl rfl (by decide) rfl rfl (pa_cons (pe_ix ix_list (pv 0) (pv 4) (fun _ _ => rfl)) (pa_cons (pe_ix ix_list (pv 0) (pv 5) (fun _ _ => rfl)) pa_nil)) (by rfl))
        (pss_one (ps_if (pt_cmpR op_ne (pv 6) (pv 7) (nomark _))
          (pss_cons (ps_augS (pe_ix ix_list (pv 3) (pv 6) (fun _ _ => rfl)) (pv 6) get_list pe_int ip_add set_list)
          (pss_cons (ps_augS (pe_ix ix_list (pv 3) (pv 7) (fun _ _ => rfl)) (pv 7) get_list pe_int ip_add set_list)
          (pss_cons (ps_augS (pe_ix ix_list (pv 3) (pv 6) (fun _ _ => rfl)) (pv 7) get_list pe_int ip_sub set_list)
          (pss_one (ps_augS (pe_ix ix_list (pv 3) (pv 7) (fun _ _ => rfl)) (pv 6) get_list pe_int ip_sub set_list))))) pss_nil))))
      (pss_one (ps_ret (pe_lc (own := [("row", 8)]) (g := gName 8) (tt := tYes) (te := tSl (rSlL K) (tVar 8) tNoPart (tPart (tVar 2))) (by rfl) scRowsOf.nd (pi_list (pe_slice sl_list (pv 3) po_none (po_some (pv 2))))
          (blkOk_by (own := [("row", 8)]) (N := ["groups", "ways", "many", "rows", "one", "other", "a", "b", "row", "column"]) (sc := defScope sRowsOf) (by decide +kernel))
          (fun _ _ _ _ _ => pg_name (i := 8) scRowsOf.nd rfl (Or.inl rfl)) (fun _ _ _ _ _ => pts_nil) (fun _ _ _ _ _ => pe_slice sl_list (pv 8) po_none (po_some (pv 2)))))))), ?_⟩
    -- many = max(groups)
    have hpos : 0 < (ST.inL gs).length := by
      have := G.all 0 (by omega)
      unfold ST.inL
      rw [List.length_map]
      exact List.length_pos_of_mem this
    refine ⟨_, rfl, g, ST.inL gs, rfl, by rw [← nVs_int]; exact hS, hpos, fun mx hmx hle => ?_⟩
    have emx : mx = (m : Int) := by
      obtain ⟨x, hx, rfl⟩ := List.mem_map.mp hmx
      have h1 := G.lt x hx
      have h2 := hle (m : Int) (List.mem_map.mpr ⟨m, G.all m (by omega), rfl⟩)
      have h3 : (Int.ofNat x) = (x : Int) := rfl
      rw [h3] at h2 ⊢
      omega
    subst emx
    have hm9 : m + 1 ≤ 1000 := by
      have h1 := G.all
      have h2 : (List.range (m + 1)).length ≤ gs.length := ST.nodup_sub (List.range (m + 1)) gs List.nodup_range (fun x hx => h1 x (by simpa using hx))
      rw [List.length_range, G.len] at h2
      omega
    -- rows = [[0 ..] ..]
    refine ⟨_, rfl, _, _, rfl, rfl, (m : Int) + 1, rfl, by omega, by omega, fun R nR => ?_⟩
    have em1 : ((m : Int) + 1).toNat = m + 1 := by omega
    refine lc_range (lo := 0) (n := ((m : Int) + 1).toNat) (fun i H1 => Same H H1 ∧ ∃ rs : List Addr, H1 R = some (.lst (rs.map V.ref)) ∧ rs.length = i ∧ rs.Nodup ∧ (∀ p ∈ rs, H p = none ∧ H1 p = some (.lst (rowV (m + 1) fun _ => 0))))
      ⟨same_upd nR, [], upd_same, rfl, List.nodup_nil, fun _ z => nomatch z⟩ (fun i H1 hi h => ?_) (fun H1 h => ?_)
    · obtain ⟨sm, rs, eR, hl, nd, hrs⟩ := h
      refine ⟨rfl, ?_⟩
      -- the inner one
      refine ⟨_, rfl, _, _, rfl, rfl, (m : Int) + 1, rfl, by omega, by omega, fun D nD => ?_⟩
      refine lc_range (lo := 0) (n := ((m : Int) + 1).toNat) (fun j H2 => Same H1 H2 ∧ H2 D = some (.lst (rowV j fun _ => 0))) ⟨same_upd nD, upd_same⟩ (fun j H2 hj h => ?_) (fun H2 h => ?_)
      · obtain ⟨s2, eD⟩ := h
        refine ⟨rfl, ?_⟩
        refine ⟨_, eD, by rw [rowV_len]; exact small (by omega), same_new s2 nD, ?_⟩
        rw [upd_same]
        unfold rowV
        rw [List.range_succ, List.map_append]
        rfl
      · obtain ⟨s2, eD⟩ := h
        rw [em1] at eD
        have hDR : D ≠ R := fun e => by rw [e, eR] at nD; cases nD
        have hDrs : D ∉ rs := fun hm => by rw [(hrs D hm).2] at nD; cases nD
        refine ⟨_, s2 _ _ eR, by rw [List.length_map]; exact small (by omega), same_new (sm.trans s2) nR, rs ++ [D], ?_, by simp [hl], ?_, fun p hp => ?_⟩
        · rw [upd_same, List.map_append]; rfl
        · rw [List.nodup_append]
          exact ⟨nd, by simp, fun x hx y hy => by simp at hy; subst hy; exact fun e => hDrs (e ▸ hx)⟩
        · rcases List.mem_append.mp hp with z | z
          · have hne : p ≠ R := fun e => by
              have h1 := (hrs p z).1
              have h2 := (hrs p z).2
              rw [e, eR] at h2
              have h3 : rs.map V.ref = rowV (m + 1) fun _ => 0 := by injection h2 with h2; injection h2
              have h4 := congrArg (fun l => l[0]?) h3
              simp only [rowV_get _ (show 0 < m + 1 by omega)] at h4
              rw [List.getElem?_map] at h4
              cases q0 : rs[0]? with
              | none => rw [q0] at h4; cases h4
              | some _ => rw [q0] at h4; cases h4
            rw [upd_ne hne]
            exact ⟨(hrs p z).1, s2 _ _ (hrs p z).2⟩
          · have e : p = D := by simpa using z
            subst e
            rw [upd_ne hDR]
            exact ⟨sm.free nD, eD⟩
    · obtain ⟨sm, rs, eR, hl, nd, hrs⟩ := h
      rw [em1] at hl
      have M0 : Mat H H1 R (m + 1) (ST.L (ST.onto (ST.cls gs) (ws.take 0))) rs := ⟨sm, nR, eR, hl, nd, fun p hp => (hrs p hp).1, fun i p hp => (hrs p (List.mem_of_getElem? hp)).2⟩
      -- the loop
      refine ⟨_, rfl, a, rfl, ⟨_, sm.seq hA⟩, ?_⟩
      refine for_list (K := K) (a := a) (xs := as.map V.ref) (fun i σ H2 => ∃ (y4 y5 y6 y7 y8 y9 : Option V), σ = [some (.ref g), some (.ref a), some (.int (m : Int)), some (.ref R), y4, y5, y6, y7, y8, y9] ∧ Mat H H2 R (m + 1) (ST.L (ST.onto (ST.cls gs) (ws.take i))) rs)
        ⟨none, none, none, none, none, none, rfl, M0⟩ (fun i σ H2 _ h => ?_) (fun i v σ H2 hv h => ?_) (fun σ H2 h => ?_)
      · obtain ⟨y4, y5, y6, y7, y8, y9, rfl, M⟩ := h
        exact M.same.seq hA
      · obtain ⟨y4, y5, y6, y7, y8, y9, rfl, M⟩ := h
        obtain ⟨t, u, ht, rfl, hu, hU⟩ := ways_get hP hv
        have iu := hI u (List.mem_of_getElem? hu)
        have sS := M.same.seq hS
        have g1 := cls_at (gs := gs) (a := u.1) (by rw [G.len]; exact iu.1)
        have g2 := cls_at (gs := gs) (a := u.2) (by rw [G.len]; exact iu.2)
        have l1 : ST.cls gs u.1 < m + 1 := G.cls_lt iu.1
        have l2 : ST.cls gs u.2 < m + 1 := G.cls_lt iu.2
        refine ⟨t, _, rfl, SqT.of (hU.same M.same), rfl, _, _, rfl, _, _, rfl, rfl, ?_⟩
        refine ⟨_, rfl, _, rfl, g, _, _, _, rfl, rfl, sS, atI_nat g1, _, rfl, _, rfl, g, _, _, _, rfl, rfl, sS, atI_nat g2, _, _, rfl, ?_⟩
        have eL : ∀ i' j', ST.L (ST.onto (ST.cls gs) (ws.take (i + 1))) i' j' = (ST.ind (ST.cls gs u.1) i' - ST.ind (ST.cls gs u.2) i') * (ST.ind (ST.cls gs u.1) j' - ST.ind (ST.cls gs u.2) j') + ST.L (ST.onto (ST.cls gs) (ws.take i)) i' j' := fun i' j' => by
          rw [take_more hu]
          have e0 : ST.onto (ST.cls gs) (ws.take i ++ [u]) = ST.onto (ST.cls gs) (ws.take i) ++ [(ST.cls gs u.1, ST.cls gs u.2)] := by simp [ST.onto]
          rw [e0, ST.L_append, Int.add_comm]
          congr 1
          simp [ST.L]
        refine ⟨_, rfl, _, rfl, rfl, _, rfl, ite2 (fun e => ?_) (fun e => ?_)⟩
        · have hne : ST.cls gs u.1 ≠ ST.cls gs u.2 := fun z => by
            rw [z] at e
            simp at e
          generalize ST.cls gs u.1 = x at *
          generalize ST.cls gs u.2 = y at *
          have hx1 : x < rs.length := by rw [hl]; exact l1
          have hy1 : y < rs.length := by rw [hl]; exact l2
          have px : rs[x]? = some rs[x] := List.getElem?_eq_getElem hx1
          have py : rs[y]? = some rs[y] := List.getElem?_eq_getElem hy1
          have vx : (rs.map V.ref)[x]? = some (.ref rs[x]) := by rw [List.getElem?_map, px]; rfl
          have vy : (rs.map V.ref)[y]? = some (.ref rs[y]) := by rw [List.getElem?_map, py]; rfl
          have r1 := M.rows x _ px
          refine ⟨_, rfl, _, rfl, R, _, _, _, rfl, rfl, SqL.of M.at_, atI_nat vx, _, rfl, rs[x], _, x, _, rfl, rfl, SqL.of r1, rowV_get _ l1, _, _, rfl, rfl, rs[x], _, _, x, rfl, rfl, r1, ixN_of (by rw [rowV_len]; exact l1), ?_⟩
          have M1 := mat_bump M px (y := x) (c := 1) rfl
          have r2 := M1.rows y _ py
          refine ⟨_, rfl, _, rfl, R, _, _, _, rfl, rfl, SqL.of M1.at_, atI_nat vy, _, rfl, rs[y], _, y, _, rfl, rfl, SqL.of r2, rowV_get _ l2, _, _, rfl, rfl, rs[y], _, _, y, rfl, rfl, r2, ixN_of (by rw [rowV_len]; exact l2), ?_⟩
          have M2 := mat_bump M1 py (y := y) (c := 1) rfl
          have r3 := M2.rows x _ px
          refine ⟨_, rfl, _, rfl, R, _, _, _, rfl, rfl, SqL.of M2.at_, atI_nat vx, _, rfl, rs[x], _, y, _, rfl, rfl, SqL.of r3, rowV_get _ l2, _, _, rfl, rfl, rs[x], _, _, y, rfl, rfl, r3, ixN_of (by rw [rowV_len]; exact l2), ?_⟩
          have M3 := mat_bump M2 px (y := y) (c := -1) (z := bump (bump (ST.L (ST.onto (ST.cls gs) (ws.take i))) x x 1) y y 1 x y - 1) (by omega)
          have r4 := M3.rows y _ py
          refine ⟨_, rfl, _, rfl, R, _, _, _, rfl, rfl, SqL.of M3.at_, atI_nat vy, _, rfl, rs[y], _, x, _, rfl, rfl, SqL.of r4, rowV_get _ l1, _, _, rfl, rfl, rs[y], _, _, x, rfl, rfl, r4, ixN_of (by rw [rowV_len]; exact l1), ?_⟩
          have M4 := mat_bump M3 py (y := x) (c := -1) (z := bump (bump (bump (ST.L (ST.onto (ST.cls gs) (ws.take i))) x x 1) y y 1) x y (-1) y x - 1) (by omega)
          rw [bump4 _ hne] at M4
          have eM : (fun i' j' => (ST.ind x i' - ST.ind y i') * (ST.ind x j' - ST.ind y j') + ST.L (ST.onto (ST.cls gs) (ws.take i)) i' j') = ST.L (ST.onto (ST.cls gs) (ws.take (i + 1))) := by
            funext i' j'
            rw [eL]
          rw [eM] at M4
          exact ⟨_, _, _, _, _, _, rfl, M4⟩
        · have heq : ST.cls gs u.1 = ST.cls gs u.2 := by
            by_cases z : ST.cls gs u.1 = ST.cls gs u.2
            · exact z
            · exfalso
              refine e ?_
              have : ¬ (V.int ((ST.cls gs u.1 : Nat) : Int)) = V.int ((ST.cls gs u.2 : Nat) : Int) := fun q => z (by injection q with q; omega)
              rw [decide_eq_false this]; rfl
          have eM : ST.L (ST.onto (ST.cls gs) (ws.take (i + 1))) = ST.L (ST.onto (ST.cls gs) (ws.take i)) := by
            funext i' j'
            rw [eL, heq]; simp
          refine ⟨_, _, _, _, _, _, rfl, ?_⟩
          rw [eM]
          exact M
      · obtain ⟨y4, y5, y6, y7, y8, y9, rfl, M⟩ := h
        rw [List.length_map, Paired.length hP, List.take_length] at M
        -- return [row[:many] for row in rows[:many]]
        refine ⟨_, rfl, _, rfl, _, rfl, R, _, rfl, SqL.of M.at_, fun c nc => ?_⟩
        have ecut : cutV (rs.map V.ref) none (some (m : Int)) = (rs.take m).map V.ref := by
          unfold cutV
          rw [HT.sIx_nat, HT.sIx_none, Nat.sub_zero, List.drop_zero, List.length_map, hl, Nat.min_eq_left (by omega), List.map_take]
        rw [ecut]
        refine ⟨c, rfl, ⟨_, SqL.of upd_same⟩, fun D nD => ?_⟩
        have sc : Same H2 (upd H2 c (.lst ((rs.take m).map V.ref))) := same_upd nc
        refine lc_list (K := K) (a := c) (xs := (rs.take m).map V.ref) (fun i H3 => Same (upd H2 c (.lst ((rs.take m).map V.ref))) H3 ∧ ∃ bs : List Addr, H3 D = some (.lst (bs.map V.ref)) ∧ Paired (fun q (r : List Int) => H3 q = some (.lst (r.map V.int))) bs ((ST.rowsOf m gs ws).take i))
          ⟨same_upd nD, [], upd_same, .nil⟩ (fun i H3 _ h => h.1.seq (SqL.of upd_same)) (fun i v H3 hv h => ?_) (fun H3 h => ?_)
        · obtain ⟨s3, bs, eD, hB⟩ := h
          have hi : i < m := by
            have := (List.getElem?_eq_some_iff.mp hv).1
            rw [List.length_map, List.length_take] at this
            omega
          have hir : i < rs.length := by omega
          have ev : v = .ref rs[i] := by
            rw [List.getElem?_map, List.getElem?_take_of_lt hi, List.getElem?_eq_getElem hir] at hv
            exact (Option.some.inj hv).symm
          subst ev
          have hrow := s3 _ _ (sc _ _ (M.rows i _ (List.getElem?_eq_getElem hir)))
          refine ⟨rfl, ?_⟩
          refine ⟨_, rfl, _, rfl, _, rfl, rs[i], _, rfl, SqL.of hrow, fun d nd' => ?_⟩
          have ecut2 : cutV (rowV (m + 1) (ST.L (ST.onto (ST.cls gs) ws) i)) none (some (m : Int)) = ((List.range m).map fun j => ST.L (ST.onto (ST.cls gs) ws) i j).map V.int := by
            unfold cutV
            rw [HT.sIx_nat, HT.sIx_none, Nat.sub_zero, List.drop_zero, rowV_len, Nat.min_eq_left (by omega)]
            unfold rowV
            rw [List.range_succ, List.map_append, List.take_left' (by simp), List.map_map]
            rfl
          rw [ecut2]
          have hro : (ST.rowsOf m gs ws)[i]? = some ((List.range m).map fun j => ST.L (ST.onto (ST.cls gs) ws) i j) := by
            unfold ST.rowsOf
            rw [List.getElem?_map, List.getElem?_range hi]
            rfl
          have hDd : D ≠ d := fun e => by rw [← e, eD] at nd'; cases nd'
          have hbl : bs.length ≤ i := by
            have := Paired.length hB
            rw [List.length_take] at this
            omega
          refine ⟨_, by rw [upd_ne hDd]; exact eD, by rw [List.length_map]; exact small (by omega), ?_, bs ++ [d], ?_, ?_⟩
          · exact same_new (same_new s3 (s3.free nd')) nD
          · rw [upd_same, List.map_append]; rfl
          · rw [take_more hro]
            have keep : ∀ q o, H3 q = some o → q ≠ D → (upd (upd H3 d (.lst (((List.range m).map fun j => ST.L (ST.onto (ST.cls gs) ws) i j).map V.int))) D (.lst (bs.map V.ref ++ [V.ref d]))) q = some o := fun q o hq hqD => by
              rw [upd_ne hqD, upd_ne (ne_of_none hq nd')]; exact hq
            refine Paired.snoc (paired_imp hB fun q r hm hq => keep q _ hq fun e => ?_) ?_
            · rw [e, eD] at hq
              injection hq with hq
              injection hq with hq
              exact refs_ints hm hq
            · show (upd (upd H3 d _) D _) d = _
              rw [upd_ne (Ne.symm hDd), upd_same]
        · obtain ⟨s3, bs, eD, hB⟩ := h
          have hfull : (ST.rowsOf m gs ws).take ((rs.take m).map V.ref).length = ST.rowsOf m gs ws := List.take_of_length_le (by
            rw [List.length_map, List.length_take]
            unfold ST.rowsOf
            rw [List.length_map, List.length_range]
            omega)
          rw [hfull] at hB
          exact q H3 D (M.same.trans (sc.trans s3)) ⟨bs, SqL.of eD, hB⟩
end
end SP
end
section
set_option Elab.async false
set_option linter.all false
set_option maxRecDepth 100000
set_option maxHeartbeats 4000000
namespace ST
/-! ### how many keys there can be -/
def allB : Nat → List BK
  | 0 => [[]]
  | m + 1 => (allB m).map (List.cons true) ++ (allB m).map (List.cons false)
theorem allB_len : ∀ m, (allB m).length = 2 ^ m
  | 0 => rfl
  | m + 1 => by simp only [allB, List.length_append, List.length_map, allB_len m]; rw [Nat.pow_succ]; omega
theorem allB_mem : ∀ (m : Nat) (k : BK), k.length = m → k ∈ allB m
  | 0, k, h => by rw [List.length_eq_zero_iff.mp h]; exact List.mem_cons_self
  | m + 1, b :: k, h => by
    have ih := allB_mem m k (by simpa using h)
    simp only [allB]
    cases b with
    | true => exact List.mem_append_left _ (List.mem_map.mpr ⟨k, ih, rfl⟩)
    | false => exact List.mem_append_right _ (List.mem_map.mpr ⟨k, ih, rfl⟩)
theorem KeyOk.le {m : Nat} {kvs : List (BK × Int)} (h : KeyOk m kvs) : kvs.length ≤ 2 ^ m := by
  have q := nodup_sub (keysOf kvs) (allB m) h.nd (fun k hk => allB_mem m k (h.len k hk))
  rw [allB_len] at q
  simpa [keysOf] using q
end ST
namespace SP
open PySem PySem.Spec PyProof.Rows L2
section
variable {P : Program} {w : World} {K : PySem.W.Frag} {mg : Str → Option Value} {base : Heap}
theorem catA_ok {H : Hp} {a b : Addr} {xs ys : List V} {Q : VK} (ha : H a = some (.tup xs)) (hb : H b = some (.tup ys)) (hz : xs.length + ys.length ≤ sizeLine) (q : ∀ (H' : Hp) (p : Addr), Same H H' → H' p = some (.tup (xs ++ ys)) → Q (.ref p) H') : rCatA K (.ref a) (.ref b) H Q := by
  refine ⟨a, b, xs, ys, rfl, rfl, SqT.of ha, SqT.of hb, hz, fun e => q H b (Same.refl H) (by rw [e]; exact hb), fun _ e => q H a (Same.refl H) (by rw [e, List.append_nil]; exact ha), fun _ _ p np => q _ p (same_upd np) upd_same⟩
theorem slA_ok {H : Hp} {a : Addr} {xs : List V} {lo hi : Option Int} {Q : VK} (ha : H a = some (.tup xs)) (q : ∀ (H' : Hp) (p : Addr), Same H H' → H' p = some (.tup (cutV xs lo hi)) → Q (.ref p) H') : rSlA K (.ref a) lo hi H Q := by
  refine ⟨a, xs, rfl, SqT.of ha, fun e => q H a (Same.refl H) ?_, fun _ p np => q _ p (same_upd np) upd_same⟩
  have : cutV xs lo hi = xs := by
    unfold cutV
    rw [e.1, e.2, List.drop_zero, Nat.sub_zero, List.take_length]
  rw [this]; exact ha
theorem cutB_to (k : ST.BK) (c : Nat) (h : c ≤ k.length) : cutV (k.map V.bl) none (some (c : Int)) = (k.take c).map V.bl := by
  unfold cutV
  rw [HT.sIx_nat, HT.sIx_none, List.length_map, Nat.sub_zero, List.drop_zero, Nat.min_eq_left h, List.map_take]
theorem cutB_from (k : ST.BK) (c : Nat) (h : c ≤ k.length) : cutV (k.map V.bl) (some (c : Int)) none = (k.drop c).map V.bl := by
  unfold cutV
  rw [HT.sIx_nat, HT.sIx_none, List.length_map, Nat.min_eq_left h, List.map_drop, List.take_of_length_le (by simp)]
/-! ### row_more(sums, row) -/
abbrev sRowMore : Stmt := topS 13
abbrev nRowMore : List Str := ["sums", "row", "found", "many", "used", "value", "column", "key", "sign"]
theorem scRowMore : FnScope ["sums", "row", "found", "many", "used", "value", "column", "key", "sign"] ["sums", "row"] (defScope sRowMore) := ⟨rfl, rfl, rfl, by decide +kernel, rfl, by decide +kernel, by decide +kernel⟩
def spRowMore (P : Program) (w : World) (K : PySem.W.Frag) : Sp := fun vs H Q _ => ∃ (d ra : Addr) (es : List BD.Ent) (row : List Int), vs = [.ref d, .ref ra] ∧ H d = some (BD.D P w d es) ∧ BD.KeysAt H es ∧ ST.KeyOk row.length (BD.strip es) ∧
  H ra = some (.lst (row.map V.int)) ∧ row.length ≤ 8 ∧ (∀ x ∈ row, -1000 ≤ x ∧ x ≤ 1000) ∧
  ∀ (H' : Hp) (p : Addr) (fs : List BD.Ent), Same H H' → H' p = some (BD.D P w p fs) → BD.KeysAt H' fs → BD.strip fs = ST.rowMore (BD.strip es) row → Q (.ref p) H'
theorem ok_rowMore {f fT : Addr} {fd fdT : FuncData} (F : Fun K "row_more" "row_more" sRowMore f fd) (FT : Fun K "taken_behind" "taken_behind" sTaken fT fdT) (bT : Binds K fdT ["used", "column", "many"] []) (gT : mg "taken_behind" = some (.ref fT))
    (ml : mg "len" = none) (mr : mg "range" = none) : FnOk P w K mg base CX0 2 f fd ["sums", "row"] (spRowMore P w K) := by
  have GT : FnOk P w K mg base CX0 1 fT fdT ["used", "column", "many"] spTaken := ok_taken FT ml mr
  refine F.ok scRowMore (fun vs H Q E h => ?_) (fun cdv A outer s H vs Q E hr h => ?_)
  · obtain ⟨d, ra, es, row, rfl, _⟩ := h
    rfl
  · obtain ⟨d, ra, es, row, rfl, hd, hk, hok, hra, hm8, hrow, q⟩ := h
    have hu := hu_of hr
    refine ⟨_, pss_cons (ps_set (i := 2) scRowMore.nd rfl (.inl rfl) BD.pe_new)
      (pss_cons (ps_set (i := 3) scRowMore.nd rfl (.inl rfl) (pe_callB call_len_seq (by rfl) ml PySem.boot_len (pa_cons (pv 1) pa_nil)))
      (pss_cons (ps_lock (ps_for PassesOwn.never rfl (BD.pi_itemsB (tg := .Name "x" ⟨0, 0, 0, 0⟩) (pv 0)) (pg_tup rfl (pgs_cons (pg_name (i := 4) scRowMore.nd rfl (.inl rfl)) (pgs_cons (pg_name (i := 5) scRowMore.nd rfl (.inl rfl)) pgs_nil)))
        (pss_one (ps_for PassesOwn.never rfl (pi_range1 (by rfl) mr (pa_cons (pv 3) pa_nil)) (pg_name (i := 6) scRowMore.nd rfl (.inl rfl))
          (pss_one (ps_if (PW.pt (pw_and (pt_not (pt_val (pe_ix ix_tup (pv 4) (pv 6) (fun _ _ => rfl)))) (pw_and1 (pt_cmpR op_ne (pe_ix ix_list (pv 1) (pv 6) (fun _ _ => rfl)) pe_int (nomark _)))))
            (pss_cons (ps_set (i := 7) scRowMore.nd rfl (.inl rfl) (pe_op op_catA (pe_op op_catA (pe_slice sl_tupA (pv 4) po_none (po_some (pv 6))) (pe_tup (pa_cons pe_bl pa_nil))) (pe_slice sl_tupA (pv 4) (po_some (pe_op op_add (pv 6) pe_int)) po_none)))
            (pss_cons (ps_set (i := 8) scRowMore.nd rfl (.inl rfl) (pe_op op_sub pe_int (pe_op op_mul pe_int (pe_op op_mod (pe_call GT hr (by rfl) gT FT.kp bT .nil pass0 (pa_cons (pv 4) (pa_cons (pv 6) (pa_cons (pv 3) pa_nil)))) pe_int))))
            (pss_one (BD.ps_put hu (pv 2) (pv 7) (pe_op op_add (BD.pe_get2 hu (pv 2) (pv 7) pe_int ⟨rfl, rfl, rfl, rfl⟩) (pe_op op_mul (pe_op op_mul (pv 8) (pv 5)) (pe_ix ix_list (pv 1) (pv 6) (fun _ _ => rfl)))) rfl)))) pss_nil))))))
      (pss_one (ps_ret (pv 2))))), ?_⟩
    -- found = {}
    refine fun o no => ?_
    have s1 : Same H (upd H o (BD.D P w o [])) := same_upd no
    have ndo : d ≠ o := ne_of_none hd no
    -- many = len(row)
    refine ⟨_, rfl, ra, _, rfl, .inl (SqL.of (s1 _ _ hra)), ?_⟩
    have hl : ((row.map V.int).length : Int) = ((row.length : Nat) : Int) := by rw [List.length_map]
    rw [hl]
    -- the loop over the entries, d locked
    refine ⟨d, _, s1 _ _ hd, trivial, fun od => ?_⟩
    refine ⟨_, rfl, d, od, es, rfl, upd_same, ?_⟩
    let Fr : Hp → Prop := fun H2 => (∀ b x, H b = some x → b ≠ d → H2 b = some x) ∧ H2 d = some (.frz od (BD.D P w d es))
    refine BD.walk_itemsB (P := P) (w := w) (d := d) (o := od) (es := es) (fun i σ H2 => ∃ (fs : List BD.Ent) (y4 y5 y6 y7 y8 : Option V), σ = [some (.ref d), some (.ref ra), some (.ref o), some (.int ((row.length : Nat) : Int)), y4, y5, y6, y7, y8] ∧ Fr H2 ∧
      H2 o = some (BD.D P w o fs) ∧ BD.KeysAt H2 fs ∧ BD.strip fs = ((BD.strip es).take i).foldl (ST.entryStep row) [] ∧ ST.KeyOk row.length (BD.strip fs))
      ⟨[], none, none, none, none, none, rfl, ⟨fun b x hb hne => ?_, upd_same⟩, ?_, (fun _ z => (nomatch z)), rfl, ST.KeyOk.nil⟩ (fun i σ H2 _ h => ?_) (fun i e σ H2 T he h nT => ?_) (fun σ H2 h => ?_)
    · rw [upd_ne hne]; exact s1 _ _ hb
    · rw [upd_ne (Ne.symm ndo), upd_same]; rfl
    · obtain ⟨fs, y4, y5, y6, y7, y8, rfl, fr, _⟩ := h
      exact fr.2
    · obtain ⟨fs0, y4, y5, y6, y7, y8, rfl, fr, eo, hkf, hst, hko⟩ := h
      -- used, value = the pair
      refine ⟨T, _, rfl, SqT.of upd_same, rfl, _, _, rfl, _, _, rfl, rfl, ?_⟩
      have sT : Same H2 (upd H2 T (.tup [.ref e.2.1, .int e.2.2])) := same_upd nT
      have hmem : e ∈ es := List.mem_of_getElem? he
      have hUH : H e.2.1 = some (.tup (e.1.map V.bl)) := hk e hmem
      have hUd : e.2.1 ≠ d := ne_of hUH hd (by intro z; cases z)
      have hkl : e.1.length = row.length := hok.len e.1 (List.mem_map.mpr ⟨(e.1, e.2.2), List.mem_map.mpr ⟨e, hmem, rfl⟩, rfl⟩)
      have hrd : ra ≠ d := ne_of hra hd (by intro z; cases z)
      -- for column in range(many)
      refine ⟨_, rfl, _, rfl, by omega, by omega, ?_⟩
      refine for_range (lo := 0) (n := ((row.length : Nat) : Int).toNat) (fun j σ H3 => ∃ (fs : List BD.Ent) (y6 y7 y8 : Option V), σ = [some (.ref d), some (.ref ra), some (.ref o), some (.int ((row.length : Nat) : Int)), some (.ref e.2.1), some (.int e.2.2), y6, y7, y8] ∧ Fr H3 ∧
        H3 o = some (BD.D P w o fs) ∧ BD.KeysAt H3 fs ∧ BD.strip fs = (List.range j).foldl (ST.colStep row e.1 e.2.2) (BD.strip fs0) ∧ ST.KeyOk row.length (BD.strip fs))
        ⟨fs0, _, _, _, rfl, ⟨fun b x hb hne => sT _ _ (fr.1 b x hb hne), sT _ _ fr.2⟩, sT _ _ eo, hkf.keeps fun b xs z => sT _ _ z, rfl, hko⟩ (fun j σ H3 hj h => ?_) (fun σ H3 h => ?_)
      · obtain ⟨fs, y6, y7, y8, rfl, fr3, eo3, hkf3, hst3, hko3⟩ := h
        have hj' : j < row.length := by omega
        have ej : (0 : Int) + (j : Int) = (j : Int) := by omega
        rw [ej]
        have hU3 : H3 e.2.1 = some (.tup (e.1.map V.bl)) := fr3.1 _ _ hUH hUd
        have hR3 : H3 ra = some (.lst (row.map V.int)) := fr3.1 _ _ hra hrd
        have hjk : j < e.1.length := by omega
        have gU : (e.1.map V.bl)[j]? = some (.bl e.1[j]) := by rw [List.getElem?_map, List.getElem?_eq_getElem hjk]; rfl
        have gR : (row.map V.int)[j]? = some (.int row[j]) := by rw [List.getElem?_map, List.getElem?_eq_getElem hj']; rfl
        have gd1 : e.1.getD j true = e.1[j] := by rw [List.getD_eq_getElem?_getD, List.getElem?_eq_getElem hjk]; rfl
        have gd2 : row.getD j 0 = row[j] := by rw [List.getD_eq_getElem?_getD, List.getElem?_eq_getElem hj']; rfl
        have hstep : (List.range (j + 1)).foldl (ST.colStep row e.1 e.2.2) (BD.strip fs0) = ST.colStep row e.1 e.2.2 (BD.strip fs) j := by
          rw [List.range_succ, List.foldl_append, ← hst3]; rfl
        have stay : ¬ (e.1.getD j true = false ∧ row.getD j 0 ≠ 0) → (∃ (fs : List BD.Ent) (y6' y7' y8' : Option V), [some (V.ref d), some (.ref ra), some (.ref o), some (.int ((row.length : Nat) : Int)), some (.ref e.2.1), some (.int e.2.2), some (.int (j : Int)), y7, y8] = [some (.ref d), some (.ref ra), some (.ref o), some (.int ((row.length : Nat) : Int)), some (.ref e.2.1), some (.int e.2.2), y6', y7', y8'] ∧ Fr H3 ∧
            H3 o = some (BD.D P w o fs) ∧ BD.KeysAt H3 fs ∧ BD.strip fs = (List.range (j + 1)).foldl (ST.colStep row e.1 e.2.2) (BD.strip fs0) ∧ ST.KeyOk row.length (BD.strip fs)) := fun hno => by
          refine ⟨fs, _, _, _, rfl, fr3, eo3, hkf3, ?_, hko3⟩
          rw [hstep]
          unfold ST.colStep
          rw [if_neg hno]
        -- if not used[column] and row[column] != 0
        refine ⟨_, rfl, _, rfl, e.2.1, _, _, _, rfl, rfl, SqT.of hU3, atI_nat gU, _, rfl, ?_⟩
        cases hb : e.1[j] with
        | true =>
          refine iteF ?_
          refine iteF (stay ?_)
          rw [gd1, hb]
          simp
        | false =>
          refine iteT ?_
          refine ⟨_, rfl, _, rfl, ra, _, _, _, rfl, rfl, SqL.of hR3, atI_nat gR, rfl, _, rfl, ite2 (fun e0 => ?_) (fun e0 => ?_)⟩
          · have hnz : row[j] ≠ 0 := fun z => by rw [z] at e0; simp at e0
            -- key = used[:column] + (True,) + used[column + 1:]
            refine ⟨_, rfl, _, rfl, _, rfl, slA_ok hU3 fun H4 p4 s4 e4 => ?_⟩
            rw [cutB_to _ _ (by omega)] at e4
            refine ⟨by show 1 ≤ sizeLine; decide, fun p5 np5 => ?_⟩
            have s5 : Same H4 (upd H4 p5 (.tup [.bl true])) := same_upd np5
            refine catA_ok (s5 _ _ e4) upd_same (by rw [List.length_map, List.length_take]; exact smallE (by simp; omega)) fun H6 p6 s6 e6 => ?_
            have s36 : Same H3 H6 := s4.trans (s5.trans s6)
            have hU6 := s36 _ _ hU3
            refine ⟨_, rfl, _, rfl, _, _, rfl, rfl, _, rfl, ?_⟩
            unfold tNoPart
            refine slA_ok hU6 fun H7 p7 s7 e7 => ?_
            have ej1 : (j : Int) + 1 = ((j + 1 : Nat) : Int) := by omega
            have e7' : H7 p7 = some (.tup ((e.1.drop (j + 1)).map V.bl)) := by
              rw [e7]
              congr 2
              show cutV (e.1.map V.bl) (some ((j : Int) + 1)) none = _
              rw [ej1, cutB_from _ _ (by omega)]
            refine catA_ok (s7 _ _ e6) e7' (by simp only [List.length_append, List.length_map, List.length_take, List.length_drop, List.length_cons, List.length_nil]; exact smallE (by omega)) fun H8 p8 s8 e8 => ?_
            have s38 : Same H3 H8 := s36.trans (s7.trans s8)
            have ekey : H8 p8 = some (.tup ((e.1.set j true).map V.bl)) := by
              rw [e8]
              congr 2
              rw [List.set_eq_take_append_cons_drop, if_pos hjk]
              simp
            -- sign = 1 - 2 * (taken_behind(used, column, many) % 2)
            have hU8 := s38 _ _ hU3
            refine ⟨_, rfl, _, rfl, _, rfl, e.2.1, e.1, j, by rw [hkl]; rfl, hU8, by omega, hjk, fun H9 s9 => ?_⟩
            refine ⟨_, _, rfl, rfl, (by show (0 : Int) < 2; decide), _, _, rfl, rfl, .inl ⟨by decide, by decide⟩, _, _, rfl, rfl, ?_⟩
            have s39 : Same H3 H9 := s38.trans s9
            have esg : (1 : Int) - 2 * (((ST.ct (e.1.drop (j + 1)) : Nat) : Int) % 2) = ST.sg (ST.ct (e.1.drop (j + 1))) := by unfold ST.sg; omega
            have hsgb : -1 ≤ ST.sg (ST.ct (e.1.drop (j + 1))) ∧ ST.sg (ST.ct (e.1.drop (j + 1))) ≤ 1 := by unfold ST.sg; omega
            -- found[key] = found.get(key, 0) + sign * value * row[column]
            have eo9 := s39 _ _ eo3
            have hk9 : BD.KeysAt H9 fs := hkf3.keeps fun b xs z => s39 _ _ z
            have ek9 := s9 _ _ ekey
            have hR9 := s39 _ _ hR3
            have hbR := hrow row[j] (List.getElem_mem hj')
            refine ⟨_, rfl, o, fs, rfl, .inl eo9, _, rfl, p8, e.1.set j true, 0, .inl eo9, hk9, rfl, ek9, rfl, ?_⟩
            refine ⟨_, rfl, _, rfl, _, _, rfl, rfl, .inl ⟨?_, ?_⟩, _, rfl, _, rfl, ra, _, _, _, rfl, rfl, SqL.of hR9, atI_nat gR, _, _, rfl, rfl, .inr ⟨by omega, by omega⟩, _, _, rfl, rfl, ?_⟩
            · show -(2 ^ 64 : Int) < (1 : Int) - 2 * (((ST.ct (e.1.drop (j + 1)) : Nat) : Int) % 2); rw [esg]; omega
            · show (1 : Int) - 2 * (((ST.ct (e.1.drop (j + 1)) : Nat) : Int) % 2) < 2 ^ 64; rw [esg]; omega
            refine ⟨_, rfl, _, rfl, o, fs, p8, e.1.set j true, _, rfl, eo9, hk9, rfl, ek9, rfl, ?_, ?_⟩
            · have h1 := hko3.le
              have h2 : (BD.strip fs).length = fs.length := by unfold BD.strip; simp
              have h3 : 2 ^ row.length ≤ 2 ^ 8 := Nat.pow_le_pow_right (by decide) hm8
              exact small (by omega)
            · have ev : ((if e.1.set j true ∈ ST.keysOf (BD.strip fs) then ST.look (BD.strip fs) (e.1.set j true) else 0) + ((1 : Int) - 2 * (((ST.ct (e.1.drop (j + 1)) : Nat) : Int) % 2)) * e.2.2 * row[j]) =
                  ST.look (BD.strip fs) (e.1.set j true) + ST.sg (ST.ct (e.1.drop (j + 1))) * e.2.2 * row.getD j 0 := by
                rw [BD.look_if, esg, gd2]
              have hcond : e.1.getD j true = false ∧ row.getD j 0 ≠ 0 := ⟨by rw [gd1, hb], by rw [gd2]; exact hnz⟩
              refine ⟨BD.putB fs (e.1.set j true) p8 _, _, _, _, rfl, ⟨fun b x hb' hne => ?_, ?_⟩, upd_same, ?_, ?_, ?_⟩
              · have hbo : b ≠ o := ne_of_none hb' no
                rw [upd_ne hbo]
                exact s39 _ _ (fr3.1 b x hb' hne)
              · rw [upd_ne ndo]
                exact s39 _ _ fr3.2
              · refine (BD.keysAt_put ek9 hk9).keeps fun b xs z => ?_
                rw [upd_ne (ne_of z eo9 (by intro z; cases z))]
                exact z
              · rw [BD.strip_put, hstep]
                unfold ST.colStep
                rw [if_pos hcond, ← ev]
              · rw [BD.strip_put]
                exact hko3.put (by rw [List.length_set]; exact hkl) _
          · have hz : row[j] = 0 := by
              by_cases z : row[j] = 0
              · exact z
              · exfalso
                refine e0 ?_
                have : ¬ (V.int row[j]) = V.int 0 := fun q => z (by injection q)
                rw [decide_eq_false this]; rfl
            refine stay ?_
            rw [gd2, hz]
            simp
      · obtain ⟨fs, y6, y7, y8, rfl, fr3, eo3, hkf3, hst3, hko3⟩ := h
        have en : ((row.length : Nat) : Int).toNat = row.length := by omega
        rw [en] at hst3
        refine ⟨fs, _, _, _, _, _, rfl, fr3, eo3, hkf3, ?_, hko3⟩
        have hse : (BD.strip es)[i]? = some (e.1, e.2.2) := by unfold BD.strip; rw [List.getElem?_map, he]; rfl
        rw [take_more hse, List.foldl_append, ← hst, hst3]
        rfl
    · obtain ⟨fs, y4, y5, y6, y7, y8, rfl, fr, eo, hkf, hst, hko⟩ := h
      refine ⟨fr.2, ?_⟩
      have hfull : (BD.strip es).take es.length = BD.strip es := List.take_of_length_le (by unfold BD.strip; simp)
      rw [hfull] at hst
      have sF : Same H (upd H2 d (BD.D P w d es)) := fun b x hb => by
        by_cases c : b = d
        · subst c; rw [upd_same]; rw [hd] at hb; exact hb
        · rw [upd_ne c]; exact fr.1 b x hb c
      refine ⟨_, rfl, q _ o fs sF ?_ ?_ hst⟩
      · rw [upd_ne (Ne.symm ndo)]; exact eo
      · refine hkf.keeps fun b xs z => ?_
        rw [upd_ne (ne_of z fr.2 (by intro z; cases z))]
        exact z
/-! ### sum_of_orders(rows) -/
abbrev sSum : Stmt := topS 14
theorem scSum : FnScope ["rows", "many", "sums", "row"] ["rows"] (defScope sSum) := ⟨rfl, rfl, rfl, by decide +kernel, rfl, by decide +kernel, by decide +kernel⟩
def spSum (K : PySem.W.Frag) : Sp := fun vs H Q _ => ∃ (a : Addr) (rows : List (List Int)), vs = [.ref a] ∧ IsRows K H a rows ∧ rows.length ≤ 8 ∧ (∀ r ∈ rows, r.length = rows.length ∧ ∀ x ∈ r, -1000 ≤ x ∧ x ≤ 1000) ∧
  ∀ H' : Hp, Same H H' → Q (.int (ST.sumOrders rows)) H'
theorem rep_map {α β : Type} (f : α → β) (n : Nat) (x : α) : List.replicate n (f x) = (List.replicate n x).map f := by simp
theorem ok_sum {f fR fT : Addr} {fd fdR fdT : FuncData} (F : Fun K "sum_of_orders" "sum_of_orders" sSum f fd) (FR : Fun K "row_more" "row_more" sRowMore fR fdR) (bR : Binds K fdR ["sums", "row"] []) (gR : mg "row_more" = some (.ref fR))
    (FT : Fun K "taken_behind" "taken_behind" sTaken fT fdT) (bT : Binds K fdT ["used", "column", "many"] []) (gT : mg "taken_behind" = some (.ref fT)) (ml : mg "len" = none) (mr : mg "range" = none) : FnOk P w K mg base CX0 3 f fd ["rows"] (spSum K) := by
  have GR : FnOk P w K mg base CX0 2 fR fdR ["sums", "row"] (spRowMore P w K) := ok_rowMore FR FT bT gT ml mr
  refine F.ok scSum (fun vs H Q E h => ?_) (fun cdv A outer s H vs Q E hr h => ?_)
  · obtain ⟨a, rows, rfl, _⟩ := h
    rfl
  · obtain ⟨a, rows, rfl, ⟨rs, hS, hP⟩, h8, hrows, q⟩ := h
    have hu := hu_of hr
    refine ⟨_, pss_cons (ps_set (i := 1) scSum.nd rfl (.inl rfl) (pe_callB call_len_seq (by rfl) ml PySem.boot_len (pa_cons (pv 0) pa_nil)))
      (pss_cons (ps_set (i := 2) scSum.nd rfl (.inl rfl) (BD.pe_disp1 hr.units0 (pe_op op_repB (pe_tup (pa_cons pe_bl pa_nil)) (pv 1)) pe_int))
      (pss_cons (ps_for PassesOwn.never rfl (pi_list (pv 0)) (pg_name (i := 3) scSum.nd rfl (.inl rfl))
        (pss_one (ps_set (i := 2) scSum.nd rfl (.inl rfl) (pe_call GR hr (by rfl) gR FR.kp bR .nil pass0 (pa_cons (pv 2) (pa_cons (pv 3) pa_nil))))))
      (pss_one (ps_ret (BD.pe_get2 hu (pv 2) (pe_op op_repB (pe_tup (pa_cons pe_bl pa_nil)) (pv 1)) pe_int ⟨rfl, rfl, rfl, rfl⟩))))), ?_⟩
    have hlen : (rs.map V.ref).length = rows.length := by rw [List.length_map]; exact Paired.length hP
    refine ⟨_, rfl, a, _, rfl, .inl hS, ?_⟩
    rw [hlen]
    -- sums = {(False,) * many: 1}
    refine fun d nd => ?_
    refine ⟨by show 1 ≤ sizeLine; decide, fun t nt => ?_⟩
    have s1 : Same H (upd H d (BD.D P w d [])) := same_upd nd
    have s2 : Same (upd H d (BD.D P w d [])) (upd (upd H d (BD.D P w d [])) t (.tup [.bl false])) := same_upd nt
    refine ⟨_, rfl, t, rows.length, .bl false, rfl, rfl, upd_same, by omega, fun H3 p3 s3 e3 => ?_⟩
    have e3' : H3 p3 = some (.tup ((List.replicate rows.length false).map V.bl)) := by rw [e3, rep_map]
    have hd3 : H3 d = some (BD.D P w d []) := s3 _ _ (s2 _ _ upd_same)
    have s03 : Same H H3 := s1.trans (s2.trans s3)
    refine ⟨hd3, p3, _, 1, rfl, e3', rfl, ?_⟩
    have s4 : Same H (upd H3 d (BD.D P w d [(List.replicate rows.length false, p3, 1)])) := same_new s03 nd
    have hp3d : p3 ≠ d := ne_of e3' hd3 (by intro z; cases z)
    -- for row in rows: sums = row_more(sums, row)
    refine ⟨_, rfl, a, rfl, ⟨_, s4.seq hS⟩, ?_⟩
    refine for_list (K := K) (a := a) (xs := rs.map V.ref) (fun i σ H5 => ∃ (d5 : Addr) (es : List BD.Ent) (y3 : Option V), σ = [some (.ref a), some (.int ((rows.length : Nat) : Int)), some (.ref d5), y3] ∧ Same H H5 ∧ H5 d5 = some (BD.D P w d5 es) ∧ BD.KeysAt H5 es ∧
      BD.strip es = (rows.take i).foldl ST.rowMore [(List.replicate rows.length false, 1)] ∧ ST.KeyOk rows.length (BD.strip es))
      ⟨d, _, none, rfl, s4, upd_same, ?_, rfl, ST.KeyOk.first _⟩ (fun i σ H5 _ h => ?_) (fun i v σ H5 hv h => ?_) (fun σ H5 h => ?_)
    · intro e he
      have : e = (List.replicate rows.length false, p3, 1) := by simpa using he
      subst this
      show (upd H3 d _) p3 = _
      rw [upd_ne hp3d]
      exact e3'
    · obtain ⟨d5, es, y3, rfl, sm, _⟩ := h
      exact sm.seq hS
    · obtain ⟨d5, es, y3, rfl, sm, ed, hk, hst, hok⟩ := h
      rw [List.getElem?_map] at hv
      cases hri : rs[i]? with
      | none => rw [hri] at hv; cases hv
      | some r =>
        rw [hri] at hv
        have ev : V.ref r = v := Option.some.inj hv
        subst ev
        obtain ⟨row, hrow, hr5⟩ := paired_get hP hri
        have hmem : row ∈ rows := List.mem_of_getElem? hrow
        have hrl := (hrows row hmem).1
        refine ⟨_, rfl, _, rfl, d5, r, es, row, rfl, ed, hk, by rw [hrl]; exact hok, sm _ _ hr5, by omega, (hrows row hmem).2, fun H6 p6 fs s6 e6 k6 st6 => ?_⟩
        refine ⟨p6, fs, _, rfl, sm.trans s6, e6, k6, ?_, ?_⟩
        · rw [st6, hst, take_more hrow, List.foldl_append]; rfl
        · rw [st6]
          have := hok.row row
          exact this
    · obtain ⟨d5, es, y3, rfl, sm, ed, hk, hst, hok⟩ := h
      rw [hlen, List.take_length] at hst
      refine ⟨_, rfl, d5, es, rfl, .inl ed, ?_⟩
      refine ⟨by show 1 ≤ sizeLine; decide, fun t7 nt7 => ?_⟩
      have s7 : Same H5 (upd H5 t7 (.tup [.bl true])) := same_upd nt7
      refine ⟨_, rfl, t7, rows.length, .bl true, rfl, rfl, upd_same, by omega, fun H8 p8 s8 e8 => ?_⟩
      have s58 : Same H5 H8 := s7.trans s8
      have e8' : H8 p8 = some (.tup ((List.replicate rows.length true).map V.bl)) := by rw [e8, rep_map]
      refine ⟨p8, _, 0, .inl (s58 _ _ ed), hk.keeps fun b xs z => s58 _ _ z, rfl, e8', rfl, ?_⟩
      rw [BD.look_if, hst]
      exact q H8 (sm.trans s58)
/-! ### tree_count(groups, ways) -/
abbrev sTreeCount : Stmt := topS 15
theorem scTreeCount : FnScope ["groups", "ways"] ["groups", "ways"] (defScope sTreeCount) := ⟨rfl, rfl, rfl, by decide +kernel, rfl, by decide +kernel, by decide +kernel⟩
def spTreeCount (K : PySem.W.Frag) : Sp := fun vs H Q _ => ∃ (g a : Addr) (gs : List Nat) (ws : List ST.Way) (n k : Nat), vs = [.ref g, .ref a] ∧ SqL K H g (nVs gs) ∧ IsWays K H a ws ∧ n ≤ 9 ∧ 1 ≤ k ∧ k ≤ 9 ∧ ST.GOk n k gs ∧ ST.Ins n ws ∧ ws.length ≤ 1000 ∧
  ∀ H' : Hp, Same H H' → Q (.int ((ST.TT k ws (ST.cls gs) : Nat) : Int)) H'
theorem ok_treeCount {f fS fO fR fT : Addr} {fd fdS fdO fdR fdT : FuncData} (F : Fun K "tree_count" "tree_count" sTreeCount f fd)
    (FS : Fun K "sum_of_orders" "sum_of_orders" sSum fS fdS) (bS : Binds K fdS ["rows"] []) (gS : mg "sum_of_orders" = some (.ref fS)) (FO : Fun K "rows_of" "rows_of" sRowsOf fO fdO) (bO : Binds K fdO ["groups", "ways"] []) (gO : mg "rows_of" = some (.ref fO))
    (FR : Fun K "row_more" "row_more" sRowMore fR fdR) (bR : Binds K fdR ["sums", "row"] []) (gR : mg "row_more" = some (.ref fR))
    (FT : Fun K "taken_behind" "taken_behind" sTaken fT fdT) (bT : Binds K fdT ["used", "column", "many"] []) (gT : mg "taken_behind" = some (.ref fT)) (ml : mg "len" = none) (mr : mg "range" = none) (mmax : mg "max" = none) : FnOk P w K mg base CX0 4 f fd ["groups", "ways"] (spTreeCount K) := by
  have GS : FnOk P w K mg base CX0 3 fS fdS ["rows"] (spSum K) := ok_sum FS FR bR gR FT bT gT ml mr
  have GO : FnOk P w K mg base CX0 1 fO fdO ["groups", "ways"] (spRowsOf K) := ok_rowsOf FO mmax mr
  refine F.ok scTreeCount (fun vs H Q E h => ?_) (fun cdv A outer s H vs Q E hr h => ?_)
  · obtain ⟨g, a, gs, ws, n, k, rfl, _⟩ := h
    rfl
  · obtain ⟨g, a, gs, ws, n, k, rfl, hS, hW, hn, hk1, hk9, G, hI, hws, q⟩ := h
    refine ⟨_, pss_one (ps_ret (pe_call GS hr (by rfl) gS FS.kp bS .nil pass0 (pa_cons (pe_call GO (hr.mono (by decide)) (by rfl) gO FO.kp bO .nil pass0 (pa_cons (pv 0) (pa_cons (pv 1) pa_nil))) pa_nil))), ?_⟩
    obtain ⟨m, rfl⟩ : ∃ m, k = m + 1 := ⟨k - 1, by omega⟩
    refine ⟨_, rfl, _, rfl, g, a, gs, ws, n, m, rfl, hS, hW, by omega, G, hI, fun H1 p s1 hp => ?_⟩
    have hl : (ST.rowsOf m gs ws).length = m := by simp [ST.rowsOf]
    refine ⟨p, _, rfl, hp, by omega, fun r hr' => ?_, fun H2 s2 => ?_⟩
    · obtain ⟨i, _, rfl⟩ := List.mem_map.mp hr'
      refine ⟨by simp [hl], fun x hx => ?_⟩
      obtain ⟨j, _, rfl⟩ := List.mem_map.mp hx
      have := ST.L_bound i j (ST.onto (ST.cls gs) ws)
      have e : (ST.onto (ST.cls gs) ws).length = ws.length := by simp [ST.onto]
      rw [e] at this
      omega
    · rw [ST.treeCount G hI]
      exact q H2 (s1.trans s2)
end
end SP
end
section
set_option Elab.async false
set_option linter.all false
set_option maxRecDepth 100000
set_option maxHeartbeats 4000000
namespace SP
open PySem PySem.Spec PyProof.Rows L2
theorem paired_drop {α β : Type} {R : α → β → Prop} : ∀ {l : List α} {m : List β}, Paired R l m → ∀ i, Paired R (l.drop i) (m.drop i)
  | _, _, .nil, i => by simp; exact .nil
  | _, _, .cons r t, 0 => .cons r t
  | _, _, .cons _ t, i + 1 => paired_drop t i
section
variable {P : Program} {w : World} {K : PySem.W.Frag} {mg : Str → Option Value} {base : Heap}
/-! ### some_ways(ways, numbers) -/
abbrev sSome : Stmt := topS 17
theorem scSome : FnScope ["ways", "numbers", "number"] ["ways", "numbers"] (defScope sSome) := ⟨rfl, rfl, rfl, by decide +kernel, rfl, by decide +kernel, by decide +kernel⟩
def spSome (K : PySem.W.Frag) : Sp := fun vs H Q _ => ∃ (a b : Addr) (ws : List ST.Way) (nums : List Nat), vs = [.ref a, .ref b] ∧ IsWays K H a ws ∧ SqL K H b (nVs nums) ∧ nums.length ≤ 2000 ∧ (∀ i ∈ nums, i < ws.length) ∧
  ∀ (H' : Hp) (p : Addr), Same H H' → H p = none → IsWays K H' p (ST.someWays ws nums) → Q (.ref p) H'
theorem ok_some {f : Addr} {fd : FuncData} {k : Nat} (F : Fun K "some_ways" "some_ways" sSome f fd) : FnOk P w K mg base CX0 (k + 1) f fd ["ways", "numbers"] (spSome K) := by
  refine F.ok scSome (fun vs H Q E h => ?_) (fun cdv A outer s H vs Q E hr h => ?_)
  · obtain ⟨a, b, ws, nums, rfl, _⟩ := h
    rfl
  · obtain ⟨a, b, ws, nums, rfl, ⟨as, hS, hP⟩, hN, hlen, hlt, q⟩ := h
    refine ⟨_, pss_one (ps_ret (pe_lc (own := [("number", 2)]) (g := gName 2) (tt := tYes) (te := tOp (rIxL K) (tVar 0) (tVar 2)) (by rfl) scSome.nd (pi_list (pv 1)) (blkOk_by (own := [("number", 2)]) (N := ["ways", "numbers", "number"]) (sc := defScope sSome) (by decide +kernel))
      (fun _ _ _ _ _ => pg_name (i := 2) scSome.nd rfl (Or.inl rfl)) (fun _ _ _ _ _ => pts_nil) (fun _ _ _ _ _ => pe_ix ix_list (pv 0) (pv 2) (fun _ _ => rfl)))), ?_⟩
    refine ⟨_, rfl, b, rfl, ⟨_, hN⟩, fun D nD => ?_⟩
    refine lc_list (K := K) (a := b) (xs := nVs nums) (fun i H1 => Same H H1 ∧ ∃ bs : List Addr, H1 D = some (.lst (bs.map V.ref)) ∧ Paired (WayAt H) bs (ST.someWays ws (nums.take i)))
      ⟨same_upd nD, [], upd_same, .nil⟩ (fun i H1 _ h => h.1.seq hN) (fun i v H1 hv h => ?_) (fun H1 h => ?_)
    · obtain ⟨sm, bs, eD, hB⟩ := h
      obtain ⟨x, hx, rfl⟩ := nVs_get' hv
      have hxl := hlt x (List.mem_of_getElem? hx)
      obtain ⟨p, hp1, hp2, hp3⟩ := ways_at_i hP (List.getElem?_eq_getElem hxl)
      have hbl : bs.length ≤ 2000 := by
        have h1 := Paired.length hB
        have h2 : (ST.someWays ws (nums.take i)).length ≤ nums.length := by simp [ST.someWays]; omega
        omega
      refine ⟨rfl, ?_⟩
      refine ⟨_, rfl, _, rfl, a, _, _, _, rfl, rfl, sm.seq hS, atI_nat hp2, _, eD, by rw [List.length_map]; exact small (by omega), same_new sm nD, bs ++ [p], ?_, ?_⟩
      · rw [upd_same, List.map_append]; rfl
      · rw [take_more hx]
        have e : ST.someWays ws (nums.take i ++ [x]) = ST.someWays ws (nums.take i) ++ [ws[x]] := by
          simp only [ST.someWays, List.map_append, List.map_cons, List.map_nil]
          rw [List.getD_eq_getElem?_getD, List.getElem?_eq_getElem hxl]; rfl
        rw [e]
        exact Paired.snoc hB hp3
    · obtain ⟨sm, bs, eD, hB⟩ := h
      rw [nVs_len, List.take_length] at hB
      exact q H1 D sm nD ⟨bs, SqL.of eD, ways_same sm hB⟩
/-! ### many_with(places, ways, numbers, begin) -/
abbrev sManyWith : Stmt := topS 18
theorem scManyWith : FnScope ["places", "ways", "numbers", "begin", "groups"] ["places", "ways", "numbers", "begin"] (defScope sManyWith) := ⟨rfl, rfl, rfl, by decide +kernel, rfl, by decide +kernel, by decide +kernel⟩
def spManyWith (K : PySem.W.Frag) : Sp := fun vs H Q _ => ∃ (a b : Addr) (ws : List ST.Way) (nums : List Nat) (n beg : Nat), vs = [.int (n : Int), .ref a, .ref b, .int (beg : Int)] ∧ IsWays K H a ws ∧ SqL K H b (nVs nums) ∧ 1 ≤ n ∧ n ≤ 9 ∧ ST.Ins n ws ∧ ws.length ≤ 1000 ∧ nums.length ≤ 1000 ∧
  (∀ i ∈ nums, i < ws.length) ∧ beg ≤ ws.length ∧ ∀ H' : Hp, Same H H' → Q (.int ((ST.manyWith n ws nums beg : Nat) : Int)) H'
/-- what the program has of counting.py -/
structure Cnt (K : PySem.W.Frag) (mg : Str → Option Value) (fM fB fO fT fR fS fC fA fW : Addr) (dM dB dO dT dR dS dC dA dW : FuncData) : Prop where
  FM : Fun K "merged" "merged" sMerged fM dM
  bM : Binds K dM ["groups", "one", "other"] []
  gM : mg "merged" = some (.ref fM)
  FB : Fun K "merged_by" "merged_by" sMergedBy fB dB
  bB : Binds K dB ["groups", "ways"] []
  gB : mg "merged_by" = some (.ref fB)
  FO : Fun K "rows_of" "rows_of" sRowsOf fO dO
  bO : Binds K dO ["groups", "ways"] []
  gO : mg "rows_of" = some (.ref fO)
  FT : Fun K "taken_behind" "taken_behind" sTaken fT dT
  bT : Binds K dT ["used", "column", "many"] []
  gT : mg "taken_behind" = some (.ref fT)
  FR : Fun K "row_more" "row_more" sRowMore fR dR
  bR : Binds K dR ["sums", "row"] []
  gR : mg "row_more" = some (.ref fR)
  FS : Fun K "sum_of_orders" "sum_of_orders" sSum fS dS
  bS : Binds K dS ["rows"] []
  gS : mg "sum_of_orders" = some (.ref fS)
  FC : Fun K "tree_count" "tree_count" sTreeCount fC dC
  bC : Binds K dC ["groups", "ways"] []
  gC : mg "tree_count" = some (.ref fC)
  FA : Fun K "all_apart" "all_apart" sApart fA dA
  bA : Binds K dA ["many"] []
  gA : mg "all_apart" = some (.ref fA)
  FW : Fun K "some_ways" "some_ways" sSome fW dW
  bW : Binds K dW ["ways", "numbers"] []
  gW : mg "some_ways" = some (.ref fW)
  ml : mg "len" = none
  mr : mg "range" = none
  mmin : mg "min" = none
  mmax : mg "max" = none
  mint : mg "int" = none
  mli : mg "list" = none
section
variable {fM fB fO fT fR fS fC fA fW : Addr} {dM dB dO dT dR dS dC dA dW : FuncData}
theorem ok_manyWith {f : Addr} {fd : FuncData} (F : Fun K "many_with" "many_with" sManyWith f fd) (T : Cnt K mg fM fB fO fT fR fS fC fA fW dM dB dO dT dR dS dC dA dW) : FnOk P w K mg base CX0 5 f fd ["places", "ways", "numbers", "begin"] (spManyWith K) := by
  have GB : FnOk P w K mg base CX0 2 fB dB ["groups", "ways"] (spMergedBy K) := ok_mergedBy T.FB T.FM T.bM T.gM T.mmin T.mmax T.mint
  have GC : FnOk P w K mg base CX0 4 fC dC ["groups", "ways"] (spTreeCount K) := ok_treeCount T.FC T.FS T.bS T.gS T.FO T.bO T.gO T.FR T.bR T.gR T.FT T.bT T.gT T.ml T.mr T.mmax
  have GA : FnOk P w K mg base CX0 1 fA dA ["many"] spApart := ok_apart T.FA T.mr T.mli
  have GW : FnOk P w K mg base CX0 1 fW dW ["ways", "numbers"] (spSome K) := ok_some T.FW
  refine F.ok scManyWith (fun vs H Q E h => ?_) (fun cdv A outer s H vs Q E hr h => ?_)
  · obtain ⟨a, b, ws, nums, n, beg, rfl, _⟩ := h
    rfl
  · obtain ⟨a, b, ws, nums, n, beg, rfl, hW, hN, hn1, hn9, hI, hwl, hnl, hlt, hbeg, q⟩ := h
    have hr1 : Room 1 _ := hr.mono (by decide)
    have hr2 : Room 2 _ := hr.mono (by decide)
    refine ⟨_, pss_cons (ps_set (i := 4) scManyWith.nd rfl (.inl rfl) (pe_call GB hr2 (by rfl) T.gB T.FB.kp T.bB .nil pass0 (pa_cons (pe_call GA hr1 (by rfl) T.gA T.FA.kp T.bA .nil pass0 (pa_cons (pv 0) pa_nil))
        (pa_cons (pe_call GW hr1 (by rfl) T.gW T.FW.kp T.bW .nil pass0 (pa_cons (pv 1) (pa_cons (pv 2) pa_nil))) pa_nil))))
      (pss_one (ps_ret (pe_ifExp (pt_cmp (pc_isN (pv 4))) pe_int (pe_call GC hr (by rfl) T.gC T.FC.kp T.bC .nil pass0 (pa_cons (pv 4) (pa_cons (pe_slice sl_list (pv 1) (po_some (pv 3)) po_none) pa_nil)))))), ?_⟩
    refine ⟨_, rfl, n, rfl, by omega, fun H1 g s1 ng hg => ?_⟩
    refine ⟨_, rfl, _, rfl, a, b, ws, nums, rfl, hW.same s1, s1.seq hN, by omega, hlt, fun H2 p s2 np hp => ?_⟩
    have s02 := s1.trans s2
    refine ⟨g, p, List.range n, ST.someWays ws nums, n, n, rfl, SqL.of (s2 _ _ hg), hp, by omega, ST.GOk.range n, hI.some hlt, fun e H3 s3 => ?_, fun gs' e H3 p3 s3 h3 => ?_⟩
    · refine ⟨_, rfl, _, rfl, ?_⟩
      refine iteT ?_
      have ev : ST.manyWith n ws nums beg = 0 := by unfold ST.manyWith; rw [e]
      have := q H3 (s02.trans s3)
      rw [ev] at this
      exact this
    · refine ⟨_, rfl, _, rfl, ?_⟩
      refine iteF ?_
      have s03 := s02.trans s3
      have ok := ST.mergedBy_ok (ST.GOk.range n) (hI.some hlt) e
      have hsl : (ST.someWays ws nums).length = nums.length := by simp [ST.someWays]
      rw [hsl] at ok
      have hk := ok.2 hn1
      obtain ⟨as, hS, hP⟩ := hW.same s03
      refine ⟨_, rfl, _, rfl, _, rfl, _, rfl, ?_⟩
      unfold tNoPart
      refine ⟨a, _, rfl, hS, fun c nc => ?_⟩
      have ecut : cutV (as.map V.ref) (some (beg : Int)) none = (as.drop beg).map V.ref := by
        unfold cutV
        have hl := Paired.length hP
        rw [HT.sIx_nat, HT.sIx_none, List.length_map, Nat.min_eq_left (by omega), List.map_drop, List.take_of_length_le (by simp)]
      rw [ecut]
      have s4 : Same H3 (upd H3 c (.lst ((as.drop beg).map V.ref))) := same_upd nc
      refine ⟨p3, c, gs', ws.drop beg, n, n - nums.length, rfl, s4.seq h3, ⟨as.drop beg, SqL.of upd_same, ways_same s4 (paired_drop hP beg)⟩, hn9, by omega, by omega, ok.1, fun v hv => hI v (List.mem_of_mem_drop hv), by rw [List.length_drop]; omega, fun H5 s5 => ?_⟩
      have ev : ST.manyWith n ws nums beg = ST.TT (n - nums.length) (ws.drop beg) (ST.cls gs') := by unfold ST.manyWith; rw [e]
      have := q H5 (s03.trans (s4.trans s5))
      rw [ev] at this
      exact this
end
end
end SP
end
section
set_option Elab.async false
set_option linter.all false
set_option maxRecDepth 100000
set_option maxHeartbeats 4000000
namespace SP
open PySem PySem.Spec PyProof.Rows L2
section
variable {P : Program} {w : World} {K : PySem.W.Frag} {mg : Str → Option Value} {base : Heap}
/-! ### many_trees(places, ways) -/
abbrev sManyTrees : Stmt := topS 19
theorem scManyTrees : FnScope ["places", "ways"] ["places", "ways"] (defScope sManyTrees) := ⟨rfl, rfl, rfl, by decide +kernel, rfl, by decide +kernel, by decide +kernel⟩
def spManyTrees (K : PySem.W.Frag) : Sp := fun vs H Q _ => ∃ (a : Addr) (ws : List ST.Way) (n : Nat), vs = [.int (n : Int), .ref a] ∧ IsWays K H a ws ∧ 1 ≤ n ∧ n ≤ 9 ∧ ST.Ins n ws ∧ ws.length ≤ 1000 ∧ ∀ H' : Hp, Same H H' → Q (.int ((ST.manyWith n ws [] 0 : Nat) : Int)) H'
theorem ok_manyTrees {f fX : Addr} {fd fdX : FuncData} (F : Fun K "many_trees" "many_trees" sManyTrees f fd) (FX : Fun K "many_with" "many_with" sManyWith fX fdX) (bX : Binds K fdX ["places", "ways", "numbers", "begin"] []) (gX : mg "many_with" = some (.ref fX))
    (GX : FnOk P w K mg base CX0 5 fX fdX ["places", "ways", "numbers", "begin"] (spManyWith K)) : FnOk P w K mg base CX0 6 f fd ["places", "ways"] (spManyTrees K) := by
  refine F.ok scManyTrees (fun vs H Q E h => ?_) (fun cdv A outer s H vs Q E hr h => ?_)
  · obtain ⟨a, ws, n, rfl, _⟩ := h
    rfl
  · obtain ⟨a, ws, n, rfl, hW, hn1, hn9, hI, hwl, q⟩ := h
    refine ⟨_, pss_one (ps_ret (pe_call GX hr (by rfl) gX FX.kp bX .nil pass0 (pa_cons (pv 0) (pa_cons (pv 1) (pa_cons (pe_lst pa_nil) (pa_cons pe_int pa_nil)))))), ?_⟩
    refine ⟨_, rfl, _, rfl, Nat.zero_le _, fun p np => ?_⟩
    have s1 : Same H (upd H p (.lst [])) := same_upd np
    exact ⟨a, p, ws, [], n, 0, rfl, hW.same s1, SqL.of upd_same, hn1, hn9, hI, hwl, by simp, fun _ z => (nomatch z), Nat.zero_le _, fun H' s2 => q H' (s1.trans s2)⟩
/-! ### tree_of(places, ways, k) -/
abbrev sTreeOf : Stmt := topS 20
theorem scTreeOf : FnScope ["places", "ways", "k", "found", "left", "number", "many"] ["places", "ways", "k"] (defScope sTreeOf) := ⟨rfl, rfl, rfl, by decide +kernel, rfl, by decide +kernel, by decide +kernel⟩
def spTreeOf (K : PySem.W.Frag) : Sp := fun vs H Q _ => ∃ (a : Addr) (ws : List ST.Way) (n kk : Nat), vs = [.int (n : Int), .ref a, .int (kk : Int)] ∧ IsWays K H a ws ∧ 1 ≤ n ∧ n ≤ 9 ∧ ST.Ins n ws ∧ ws.length ≤ 900 ∧
  ∀ (H' : Hp) (p : Addr), Same H H' → H p = none → H' p = some (.lst (nVs (ST.treeOf n ws kk))) → Q (.ref p) H'
theorem range'_cons {i m : Nat} (h : i < m) : List.range' i (m - i) = i :: List.range' (i + 1) (m - (i + 1)) := by
  have e : m - i = (m - (i + 1)) + 1 := by omega
  rw [e, List.range'_succ]
theorem ok_treeOf {f fX : Addr} {fd fdX : FuncData} (F : Fun K "tree_of" "tree_of" sTreeOf f fd) (FX : Fun K "many_with" "many_with" sManyWith fX fdX) (bX : Binds K fdX ["places", "ways", "numbers", "begin"] []) (gX : mg "many_with" = some (.ref fX))
    (GX : FnOk P w K mg base CX0 5 fX fdX ["places", "ways", "numbers", "begin"] (spManyWith K)) (ml : mg "len" = none) (mr : mg "range" = none) : FnOk P w K mg base CX0 6 f fd ["places", "ways", "k"] (spTreeOf K) := by
  refine F.ok scTreeOf (fun vs H Q E h => ?_) (fun cdv A outer s H vs Q E hr h => ?_)
  · obtain ⟨a, ws, n, kk, rfl, _⟩ := h
    rfl
  · obtain ⟨a, ws, n, kk, rfl, hW, hn1, hn9, hI, hwl, q⟩ := h
    refine ⟨_, pss_cons (ps_set (i := 3) scTreeOf.nd rfl (.inl rfl) (pe_lst pa_nil))
      (pss_cons (ps_set (i := 4) scTreeOf.nd rfl (.inl rfl) (pv 2))
      (pss_cons (ps_for PassesOwn.never rfl (pi_range1 (by rfl) mr (pa_cons (pe_callB call_len_seq (by rfl) ml PySem.boot_len (pa_cons (pv 1) pa_nil)) pa_nil)) (pg_name (i := 5) scTreeOf.nd rfl (.inl rfl))
        (pss_cons (ps_set (i := 6) scTreeOf.nd rfl (.inl rfl) (pe_call GX hr (by rfl) gX FX.kp bX .nil pass0 (pa_cons (pv 0) (pa_cons (pv 1) (pa_cons (pe_op op_cat (pv 3) (pe_lst (pa_cons (pv 5) pa_nil))) (pa_cons (pe_op op_add (pv 5) pe_int) pa_nil))))))
        (pss_one (ps_if (pt_cmpR op_lt (pv 4) (pv 6) (nomark _))
          (pss_one (ps_expr (pe_bm PySem.F.plainAttrs_list PySem.F.slot_list_append PySem.F.type_list_append mt_append (pv 3) (pa_cons (pv 5) pa_nil))))
          (pss_one (ps_set (i := 4) scTreeOf.nd rfl (.inl rfl) (pe_op op_sub (pv 4) (pv 6))))))))
      (pss_one (ps_ret (pv 3))))), ?_⟩
    refine ⟨Nat.zero_le _, fun o no => ?_⟩
    have s1 : Same H (upd H o (.lst [])) := same_upd no
    refine ⟨_, rfl, ?_⟩
    obtain ⟨as, hS, hP⟩ := id hW
    have hl : (as.map V.ref).length = ws.length := ways_len hP
    refine ⟨_, rfl, a, _, rfl, .inl (s1.seq hS), _, rfl, by omega, by omega, ?_⟩
    rw [hl]
    refine for_range (lo := 0) (n := ((ws.length : Nat) : Int).toNat) (fun i σ H1 => ∃ (fnd : List Nat) (left : Nat) (y5 y6 : Option V), σ = [some (.int (n : Int)), some (.ref a), some (.int (kk : Int)), some (.ref o), some (.int (left : Int)), y5, y6] ∧ Same H H1 ∧ H1 o = some (.lst (nVs fnd)) ∧
      (∀ x ∈ fnd, x < i) ∧ fnd.length ≤ i ∧ ST.treeGo n ws (List.range' i (ws.length - i)) fnd left = ST.treeOf n ws kk)
      ⟨[], kk, none, none, rfl, s1, upd_same, fun _ z => (nomatch z), Nat.le_refl _, by unfold ST.treeOf; rw [List.range_eq_range']; rfl⟩ (fun i σ H1 hi h => ?_) (fun σ H1 h => ?_)
    · obtain ⟨fnd, left, y5, y6, rfl, sm, eo, hf, hfl, heq⟩ := h
      have hi' : i < ws.length := by omega
      have ei : (0 : Int) + (i : Int) = (i : Int) := by omega
      rw [ei]
      -- many = many_with(places, ways, found + [number], number + 1)
      refine ⟨_, rfl, _, rfl, _, rfl, _, rfl, by show 1 ≤ sizeLine; decide, fun c nc => ?_⟩
      have sc : Same H1 (upd H1 c (.lst [V.int (i : Int)])) := same_upd nc
      refine ⟨o, c, _, _, rfl, rfl, sc _ _ eo, upd_same, by rw [nVs_len]; exact smallE (by simp; omega), fun p np => ?_⟩
      have sp : Same (upd H1 c (.lst [V.int (i : Int)])) (upd (upd H1 c (.lst [V.int (i : Int)])) p (.lst (nVs fnd ++ [V.int (i : Int)]))) := same_upd np
      have s12 := sc.trans sp
      have ep : (upd (upd H1 c (.lst [V.int (i : Int)])) p (.lst (nVs fnd ++ [V.int (i : Int)]))) p = some (.lst (nVs (fnd ++ [i]))) := by rw [upd_same, nVs_app]; rfl
      refine ⟨_, rfl, _, _, rfl, rfl, a, p, ws, fnd ++ [i], n, i + 1, rfl, hW.same (sm.trans s12), SqL.of ep, hn1, hn9, hI, by omega, by simp; omega, fun x hx => ?_, by omega, fun H3 s3 => ?_⟩
      · rcases List.mem_append.mp hx with z | z
        · have := hf x z; omega
        · have : x = i := by simpa using z
          omega
      have s13 : Same H1 H3 := s12.trans s3
      have eo3 := s13 _ _ eo
      rw [range'_cons hi'] at heq
      simp only [ST.treeGo] at heq
      refine ⟨_, rfl, _, rfl, _, _, rfl, rfl, _, rfl, ite2 (fun e => ?_) (fun e => ?_)⟩
      · have e' : left < ST.manyWith n ws (fnd ++ [i]) (i + 1) := by have := of_decide_eq_true e; omega
        rw [if_pos e'] at heq
        refine ⟨_, rfl, .inl ⟨rfl, _, SqL.of eo3⟩, _, rfl, o, _, _, rfl, rfl, eo3, by rw [nVs_len]; exact small (by omega), ?_⟩
        refine ⟨fnd ++ [i], left, _, _, rfl, same_new (sm.trans s13) no, ?_, fun x hx => ?_, by simp; omega, heq⟩
        · rw [upd_same, nVs_app]; rfl
        · rcases List.mem_append.mp hx with z | z
          · have := hf x z; omega
          · have : x = i := by simpa using z
            omega
      · have e' : ¬ left < ST.manyWith n ws (fnd ++ [i]) (i + 1) := fun z => e (decide_eq_true (by omega))
        rw [if_neg e'] at heq
        refine ⟨_, rfl, _, rfl, _, _, rfl, rfl, ?_⟩
        refine ⟨fnd, left - ST.manyWith n ws (fnd ++ [i]) (i + 1), some (.int (i : Int)), some (.int ((ST.manyWith n ws (fnd ++ [i]) (i + 1) : Nat) : Int)), ?_, sm.trans s13, eo3, fun x hx => ?_, by omega, heq⟩
        · have e5 : (left : Int) - ((ST.manyWith n ws (fnd ++ [i]) (i + 1) : Nat) : Int) = ((left - ST.manyWith n ws (fnd ++ [i]) (i + 1) : Nat) : Int) := by omega
          rw [← e5]
          rfl
        · have := hf x hx; omega
    · obtain ⟨fnd, left, y5, y6, rfl, sm, eo, hf, hfl, heq⟩ := h
      have en : ((ws.length : Nat) : Int).toNat = ws.length := by omega
      rw [en, Nat.sub_self] at heq
      have e3 : fnd = ST.treeOf n ws kk := heq
      rw [e3] at eo
      exact ⟨_, rfl, q H1 o sm no eo⟩
/-! ### number_of(places, ways, tree) -/
abbrev sNumberOf : Stmt := topS 21
theorem scNumberOf : FnScope ["places", "ways", "tree", "found", "ahead", "number"] ["places", "ways", "tree"] (defScope sNumberOf) := ⟨rfl, rfl, rfl, by decide +kernel, rfl, by decide +kernel, by decide +kernel⟩
def spNumberOf (K : PySem.W.Frag) : Sp := fun vs H Q _ => ∃ (a t : Addr) (ws : List ST.Way) (tr : List Nat) (n : Nat), vs = [.int (n : Int), .ref a, .ref t] ∧ IsWays K H a ws ∧ SqL K H t (nVs tr) ∧ 1 ≤ n ∧ n ≤ 9 ∧ ST.Ins n ws ∧ ws.length ≤ 900 ∧
  ∀ (H' : Hp), Same H H' → Q (.int ((ST.numberOf n ws tr : Nat) : Int)) H'
theorem ok_numberOf {f fX : Addr} {fd fdX : FuncData} (F : Fun K "number_of" "number_of" sNumberOf f fd) (FX : Fun K "many_with" "many_with" sManyWith fX fdX) (bX : Binds K fdX ["places", "ways", "numbers", "begin"] []) (gX : mg "many_with" = some (.ref fX))
    (GX : FnOk P w K mg base CX0 5 fX fdX ["places", "ways", "numbers", "begin"] (spManyWith K)) (ml : mg "len" = none) (mr : mg "range" = none) : FnOk P w K mg base CX0 6 f fd ["places", "ways", "tree"] (spNumberOf K) := by
  refine F.ok scNumberOf (fun vs H Q E h => ?_) (fun cdv A outer s H vs Q E hr h => ?_)
  · obtain ⟨a, t, ws, tr, n, rfl, _⟩ := h
    rfl
  · obtain ⟨a, t, ws, tr, n, rfl, hW, hT, hn1, hn9, hI, hwl, q⟩ := h
    refine ⟨_, pss_cons (ps_set (i := 3) scNumberOf.nd rfl (.inl rfl) pe_int)
      (pss_cons (ps_set (i := 4) scNumberOf.nd rfl (.inl rfl) (pe_lst pa_nil))
      (pss_cons (ps_for PassesOwn.never rfl (pi_range1 (by rfl) mr (pa_cons (pe_callB call_len_seq (by rfl) ml PySem.boot_len (pa_cons (pv 1) pa_nil)) pa_nil)) (pg_name (i := 5) scNumberOf.nd rfl (.inl rfl))
        (pss_one (ps_if (pt_cmpR op_in_seq (pv 5) (pv 2) (by rfl))
          (pss_one (ps_expr (pe_bm PySem.F.plainAttrs_list PySem.F.slot_list_append PySem.F.type_list_append mt_append (pv 4) (pa_cons (pv 5) pa_nil))))
          (pss_one (ps_set (i := 3) scNumberOf.nd rfl (.inl rfl) (pe_op op_add (pv 3) (pe_call GX hr (by rfl) gX FX.kp bX .nil pass0 (pa_cons (pv 0) (pa_cons (pv 1) (pa_cons (pe_op op_cat (pv 4) (pe_lst (pa_cons (pv 5) pa_nil))) (pa_cons (pe_op op_add (pv 5) pe_int) pa_nil)))))))))))
      (pss_one (ps_ret (pv 3))))), ?_⟩
    refine ⟨Nat.zero_le _, fun o no => ?_⟩
    have s1 : Same H (upd H o (.lst [])) := same_upd no
    obtain ⟨as, hS, hP⟩ := id hW
    have hl : (as.map V.ref).length = ws.length := ways_len hP
    refine ⟨_, rfl, a, _, rfl, .inl (s1.seq hS), _, rfl, by omega, by omega, ?_⟩
    rw [hl]
    refine for_range (lo := 0) (n := ((ws.length : Nat) : Int).toNat) (fun i σ H1 => ∃ (ah : List Nat) (fnd : Nat) (y5 : Option V), σ = [some (.int (n : Int)), some (.ref a), some (.ref t), some (.int (fnd : Int)), some (.ref o), y5] ∧ Same H H1 ∧ H1 o = some (.lst (nVs ah)) ∧
      (∀ x ∈ ah, x < i) ∧ ah.length ≤ i ∧ ST.numGo n ws tr (List.range' i (ws.length - i)) ah fnd = ST.numberOf n ws tr)
      ⟨[], 0, none, rfl, s1, upd_same, fun _ z => (nomatch z), Nat.le_refl _, by unfold ST.numberOf; rw [List.range_eq_range']; rfl⟩ (fun i σ H1 hi h => ?_) (fun σ H1 h => ?_)
    · obtain ⟨ah, fnd, y5, rfl, sm, eo, hf, hfl, heq⟩ := h
      have hi' : i < ws.length := by omega
      have ei : (0 : Int) + (i : Int) = (i : Int) := by omega
      rw [ei]
      rw [range'_cons hi'] at heq
      simp only [ST.numGo] at heq
      refine ⟨_, rfl, _, rfl, t, _, rfl, .inl (sm.seq hT), rfl, flat_nat _, _, rfl, ?_⟩
      rw [inV_nat]
      refine ite2 (fun e => ?_) (fun e => ?_)
      · have e' : i ∈ tr := by
          have e2 : tr.contains i = true := e
          simpa using e2
        rw [if_pos e'] at heq
        refine ⟨_, rfl, .inl ⟨rfl, _, SqL.of eo⟩, _, rfl, o, _, _, rfl, rfl, eo, by rw [nVs_len]; exact small (by omega), ?_⟩
        refine ⟨ah ++ [i], fnd, _, rfl, same_new sm no, ?_, fun x hx => ?_, by simp; omega, heq⟩
        · rw [upd_same, nVs_app]; rfl
        · rcases List.mem_append.mp hx with z | z
          · have := hf x z; omega
          · have : x = i := by simpa using z
            omega
      · have e' : ¬ i ∈ tr := fun z => e (by
          show tr.contains i = true
          simpa using z)
        rw [if_neg e'] at heq
        refine ⟨_, rfl, _, rfl, _, rfl, _, rfl, _, rfl, by show 1 ≤ sizeLine; decide, fun c nc => ?_⟩
        have sc : Same H1 (upd H1 c (.lst [V.int (i : Int)])) := same_upd nc
        refine ⟨o, c, _, _, rfl, rfl, sc _ _ eo, upd_same, by rw [nVs_len]; exact smallE (by simp; omega), fun p np => ?_⟩
        have sp : Same (upd H1 c (.lst [V.int (i : Int)])) (upd (upd H1 c (.lst [V.int (i : Int)])) p (.lst (nVs ah ++ [V.int (i : Int)]))) := same_upd np
        have s12 := sc.trans sp
        have ep : (upd (upd H1 c (.lst [V.int (i : Int)])) p (.lst (nVs ah ++ [V.int (i : Int)]))) p = some (.lst (nVs (ah ++ [i]))) := by rw [upd_same, nVs_app]; rfl
        refine ⟨_, rfl, _, _, rfl, rfl, a, p, ws, ah ++ [i], n, i + 1, rfl, hW.same (sm.trans s12), SqL.of ep, hn1, hn9, hI, by omega, by simp; omega, fun x hx => ?_, by omega, fun H3 s3 => ?_⟩
        · rcases List.mem_append.mp hx with z | z
          · have := hf x z; omega
          · have : x = i := by simpa using z
            omega
        have s13 : Same H1 H3 := s12.trans s3
        refine ⟨_, _, rfl, rfl, ?_⟩
        refine ⟨ah, fnd + ST.manyWith n ws (ah ++ [i]) (i + 1), some (.int (i : Int)), ?_, sm.trans s13, s13 _ _ eo, fun x hx => ?_, by omega, heq⟩
        · have e5 : (fnd : Int) + ((ST.manyWith n ws (ah ++ [i]) (i + 1) : Nat) : Int) = ((fnd + ST.manyWith n ws (ah ++ [i]) (i + 1) : Nat) : Int) := by omega
          rw [← e5]
          rfl
        · have := hf x hx; omega
    · obtain ⟨ah, fnd, y5, rfl, sm, eo, hf, hfl, heq⟩ := h
      have en : ((ws.length : Nat) : Int).toNat = ws.length := by omega
      rw [en, Nat.sub_self] at heq
      have e3 : fnd = ST.numberOf n ws tr := heq
      subst e3
      exact ⟨_, rfl, q H1 sm⟩
end
end SP
end
section
set_option Elab.async false
set_option linter.all false
set_option maxRecDepth 100000
set_option maxHeartbeats 4000000
namespace ST
/-- each less than the next one -/
def adj : List Nat → List Bool
  | a :: b :: l => decide (a < b) :: adj (b :: l)
  | _ => []
theorem adj_len : ∀ l : List Nat, (adj l).length = l.length - 1
  | [] => rfl
  | [_] => rfl
  | a :: b :: l => by simp only [adj, List.length_cons, adj_len (b :: l)]; omega
theorem adj_get : ∀ (l : List Nat) (i a b : Nat), l[i]? = some a → l[i + 1]? = some b → (adj l)[i]? = some (decide (a < b))
  | [], _, _, _, h, _ => by simp at h
  | [_], 0, _, _, _, h => by simp at h
  | [_], i + 1, _, _, h, _ => by simp at h
  | x :: y :: l, 0, a, b, h, h2 => by
    have e1 : x = a := by simpa using h
    have e2 : y = b := by simpa using h2
    subst e1 e2; rfl
  | x :: y :: l, i + 1, a, b, h, h2 => adj_get (y :: l) i a b (by simpa using h) (by simpa using h2)
theorem adj_rising : ∀ l : List Nat, (adj l).all id = risingB l
  | [] => rfl
  | [_] => by simp [adj, risingB]
  | a :: b :: l => by
    have ih := adj_rising (b :: l)
    have e : risingB (a :: b :: l) = (decide (a < b) && risingB (b :: l)) := by
      unfold risingB
      rw [Bool.eq_iff_iff, Bool.and_eq_true, decide_eq_true_eq, decide_eq_true_eq, decide_eq_true_eq, List.pairwise_cons]
      constructor
      · rintro ⟨h1, h2⟩
        exact ⟨h1 b List.mem_cons_self, h2⟩
      · rintro ⟨h1, h2⟩
        refine ⟨fun c hc => ?_, h2⟩
        rcases List.mem_cons.mp hc with z | z
        · rw [z]; exact h1
        · have := (List.pairwise_cons.mp h2).1 c z
          omega
    rw [e, ← ih]
    rfl
end ST
namespace SP
open PySem PySem.Spec PyProof.Rows L2
section
variable {P : Program} {w : World} {K : PySem.W.Frag} {mg : Str → Option Value} {base : Heap}
/-! ### are_rising(numbers) -/
abbrev sRising : Stmt := topS 22
theorem scRising : FnScope ["numbers", "one", "other"] ["numbers"] (defScope sRising) := ⟨rfl, rfl, rfl, by decide +kernel, rfl, by decide +kernel, by decide +kernel⟩
def spRising (K : PySem.W.Frag) : Sp := fun vs H Q _ => ∃ (b : Addr) (nums : List Nat), vs = [.ref b] ∧ SqL K H b (nVs nums) ∧ nums.length ≤ 20000 ∧ ∀ H' : Hp, Same H H' → Q (.bl (ST.risingB nums)) H'
theorem ok_rising {f : Addr} {fd : FuncData} {k : Nat} (F : Fun K "are_rising" "are_rising" sRising f fd) (mz : mg "zip" = none) (mall : mg "all" = none) : FnOk P w K mg base CX0 (k + 1) f fd ["numbers"] (spRising K) := by
  refine F.ok scRising (fun vs H Q E h => ?_) (fun cdv A outer s H vs Q E hr h => ?_)
  · obtain ⟨b, nums, rfl, _⟩ := h
    rfl
  · obtain ⟨b, nums, rfl, hN, hlen, q⟩ := h
    refine ⟨_, pss_one (ps_ret (pe_callB (cr_all rfl) (by rfl) mall (by decide +kernel) (pa_cons (pe_lc (own := [("one", 1), ("other", 2)]) (g := gTup K 2 (gCons (gName 1) (gCons (gName 2) gNil))) (tt := tYes) (te := tOp (rI0 fun i j => .bl (decide (i < j))) (tVar 1) (tVar 2)) (by rfl) scRising.nd
      (pi_zip (by rfl) mz (pa_cons (pv 0) (pa_cons (pe_slice sl_list (pv 0) (po_some pe_int) po_none) pa_nil))) (blkOk_by (own := [("one", 1), ("other", 2)]) (N := ["numbers", "one", "other"]) (sc := defScope sRising) (by decide +kernel))
      (fun _ _ _ _ _ => pg_tup rfl (pgs_cons (pg_name (i := 1) scRising.nd rfl (Or.inl rfl)) (pgs_cons (pg_name (i := 2) scRising.nd rfl (Or.inl rfl)) pgs_nil))) (fun _ _ _ _ _ => pts_nil) (fun _ _ _ _ _ => pe_cmpR op_lt (pv 1) (pv 2) (nomark _))) pa_nil))), ?_⟩
    refine ⟨_, rfl, _, rfl, 1, rfl, ?_⟩
    unfold tNoPart
    refine ⟨b, _, rfl, hN, fun c nc => ?_⟩
    have sc : Same H (upd H c (.lst (cutV (nVs nums) (some 1) none))) := same_upd nc
    have ec : cutV (nVs nums) (some 1) none = nVs (nums.drop 1) := by
      by_cases h1 : 1 ≤ nums.length
      · exact cut_from nums 1 h1
      · have e0 : nums = [] := List.length_eq_zero_iff.mp (by omega)
        subst e0; rfl
    rw [ec] at sc ⊢
    refine ⟨b, c, _, _, rfl, sc.seq hN, SqL.of upd_same, fun D nD => ?_⟩
    refine lc_it (walk_zip (K := K) (a := b) (b := c) (xs := nVs nums) (ys := nVs (nums.drop 1)) (n := nums.length - 1) (by rw [nVs_len, nVs_len, List.length_drop]; omega))
      (fun i H1 => Same (upd H c (.lst (nVs (nums.drop 1)))) H1 ∧ H1 D = some (.lst (((ST.adj nums).take i).map V.bl))) ⟨same_upd nD, upd_same⟩ (fun i H1 _ h => ⟨(sc.trans h.1).seq hN, h.1.seq (SqL.of upd_same)⟩) (fun i v H1 H1' hi h hy => ?_) (fun H1 h => ?_)
    · obtain ⟨sm, eD⟩ := h
      obtain ⟨T, x1, x2, rfl, nT, rfl, f1, f2⟩ := hy
      obtain ⟨x, hx, rfl⟩ := nVs_get' f1
      obtain ⟨y, hy, rfl⟩ := nVs_get' f2
      have hy' : nums[i + 1]? = some y := by rw [List.getElem?_drop, Nat.add_comm] at hy; exact hy
      have sT : Same H1 (upd H1 T (.tup [.int (x : Int), .int (y : Int)])) := same_upd nT
      refine ⟨T, _, rfl, SqT.of upd_same, rfl, _, _, rfl, _, _, rfl, rfl, rfl, ?_⟩
      refine ⟨_, rfl, _, rfl, _, _, rfl, rfl, _, sT _ _ eD, ?_, same_new (sm.trans sT) nD, ?_⟩
      · rw [List.length_map, List.length_take]; exact small (by omega)
      · have ea := ST.adj_get nums i x y hx hy'
        rw [upd_same, take_more ea, List.map_append]
        congr 3
        show [V.bl (decide ((x : Int) < (y : Int)))] = [V.bl (decide (x < y))]
        congr 2
        by_cases c1 : x < y
        · rw [decide_eq_true c1, decide_eq_true (by omega)]
        · rw [decide_eq_false c1, decide_eq_false (by omega)]
    · obtain ⟨sm, eD⟩ := h
      have e3 : (ST.adj nums).take (nums.length - 1) = ST.adj nums := List.take_of_length_le (by rw [ST.adj_len]; exact Nat.le_refl _)
      rw [e3] at eD
      refine ⟨D, ST.adj nums, rfl, SqL.of eD, ?_⟩
      rw [ST.adj_rising]
      exact q H1 (sc.trans sm)
/-! ### spans(places, ways) -/
abbrev sSpans : Stmt := topS 23
theorem scSpans : FnScope ["places", "ways"] ["places", "ways"] (defScope sSpans) := ⟨rfl, rfl, rfl, by decide +kernel, rfl, by decide +kernel, by decide +kernel⟩
def spSpans (K : PySem.W.Frag) : Sp := fun vs H Q _ => ∃ (a : Addr) (ws : List ST.Way) (n : Nat), vs = [.int (n : Int), .ref a] ∧ IsWays K H a ws ∧ 1 ≤ n ∧ n ≤ 9 ∧ ST.Ins n ws ∧ ∀ H' : Hp, Same H H' → Q (.bl (ST.spansB n ws)) H'
section
variable {fM fB fO fT fR fS fC fA fW : Addr} {dM dB dO dT dR dS dC dA dW : FuncData}
theorem ok_spans {f : Addr} {fd : FuncData} (F : Fun K "spans" "spans" sSpans f fd) (T : Cnt K mg fM fB fO fT fR fS fC fA fW dM dB dO dT dR dS dC dA dW) : FnOk P w K mg base CX0 3 f fd ["places", "ways"] (spSpans K) := by
  have GB : FnOk P w K mg base CX0 2 fB dB ["groups", "ways"] (spMergedBy K) := ok_mergedBy T.FB T.FM T.bM T.gM T.mmin T.mmax T.mint
  have GA : FnOk P w K mg base CX0 1 fA dA ["many"] spApart := ok_apart T.FA T.mr T.mli
  refine F.ok scSpans (fun vs H Q E h => ?_) (fun cdv A outer s H vs Q E hr h => ?_)
  · obtain ⟨a, ws, n, rfl, _⟩ := h
    rfl
  · obtain ⟨a, ws, n, rfl, hW, hn1, hn9, hI, q⟩ := h
    have hr1 : Room 1 _ := hr.mono (by decide)
    refine ⟨_, pss_one (ps_ret (pe_and (pe_cmpR op_eq (pe_callB call_len_seq (by rfl) T.ml PySem.boot_len (pa_cons (pv 1) pa_nil)) (pe_op op_sub (pv 0) pe_int) (nomark _))
      (pe_one (pe_cmp (pc_notN (pe_call GB hr (by rfl) T.gB T.FB.kp T.bB .nil pass0 (pa_cons (pe_call GA hr1 (by rfl) T.gA T.FA.kp T.bA .nil pass0 (pa_cons (pv 0) pa_nil)) (pa_cons (pv 1) pa_nil)))))))), ?_⟩
    obtain ⟨as, hS, hP⟩ := id hW
    have hl : (as.map V.ref).length = ws.length := ways_len hP
    refine ⟨_, rfl, a, _, rfl, .inl hS, _, rfl, _, _, rfl, rfl, rfl, _, rfl, ?_⟩
    rw [hl]
    refine ite2 (fun e => ?_) (fun e => ?_)
    · have e1 : V.int ((ws.length : Nat) : Int) = V.int ((n : Int) - 1) := of_decide_eq_true e
      have e2 : ws.length + 1 = n := by injection e1 with e1; omega
      refine ⟨_, rfl, n, rfl, by omega, fun H1 g s1 ng hg => ?_⟩
      refine ⟨_, rfl, g, a, List.range n, ws, n, n, rfl, SqL.of hg, hW.same s1, by omega, ST.GOk.range n, hI, fun en H2 s2 => ?_, fun gs' en H2 p2 s2 h2 => ?_⟩
      · have ev : ST.spansB n ws = false := by unfold ST.spansB; rw [en]; simp
        have := q H2 (s1.trans s2)
        rw [ev] at this
        exact this
      · have ev : ST.spansB n ws = true := by unfold ST.spansB; rw [en, decide_eq_true e2]; rfl
        have := q H2 (s1.trans s2)
        rw [ev] at this
        exact this
    · have e2 : ¬ ws.length + 1 = n := fun z => e (decide_eq_true (by congr 1; omega))
      have ev : ST.spansB n ws = false := by unfold ST.spansB; rw [decide_eq_false e2]; rfl
      have := q H (Same.refl H)
      rw [ev] at this
      exact this
/-! ### is_tree(places, ways, numbers) -/
abbrev sIsTree : Stmt := topS 24
theorem scIsTree : FnScope ["places", "ways", "numbers", "number"] ["places", "ways", "numbers"] (defScope sIsTree) := ⟨rfl, rfl, rfl, by decide +kernel, rfl, by decide +kernel, by decide +kernel⟩
def spIsTree (K : PySem.W.Frag) : Sp := fun vs H Q _ => ∃ (a b : Addr) (ws : List ST.Way) (nums : List Nat) (n : Nat), vs = [.int (n : Int), .ref a, .ref b] ∧ IsWays K H a ws ∧ SqL K H b (nVs nums) ∧ nums.length ≤ 20000 ∧ 1 ≤ n ∧ n ≤ 9 ∧ ST.Ins n ws ∧ ws.length ≤ 2000 ∧
  ∀ H' : Hp, Same H H' → Q (.bl (ST.isTreeB n ws nums)) H'
theorem ok_isTree {f fR' fP : Addr} {fd dR' dP : FuncData} (F : Fun K "is_tree" "is_tree" sIsTree f fd) (T : Cnt K mg fM fB fO fT fR fS fC fA fW dM dB dO dT dR dS dC dA dW) (FR' : Fun K "are_rising" "are_rising" sRising fR' dR') (bR' : Binds K dR' ["numbers"] []) (gR' : mg "are_rising" = some (.ref fR'))
    (FP : Fun K "spans" "spans" sSpans fP dP) (bP : Binds K dP ["places", "ways"] []) (gP : mg "spans" = some (.ref fP)) (mz : mg "zip" = none) (mall : mg "all" = none) : FnOk P w K mg base CX0 4 f fd ["places", "ways", "numbers"] (spIsTree K) := by
  have GR : FnOk P w K mg base CX0 1 fR' dR' ["numbers"] (spRising K) := ok_rising FR' mz mall
  have GP : FnOk P w K mg base CX0 3 fP dP ["places", "ways"] (spSpans K) := ok_spans FP T
  have GW : FnOk P w K mg base CX0 1 fW dW ["ways", "numbers"] (spSome K) := ok_some T.FW
  refine F.ok scIsTree (fun vs H Q E h => ?_) (fun cdv A outer s H vs Q E hr h => ?_)
  · obtain ⟨a, b, ws, nums, n, rfl, _⟩ := h
    rfl
  · obtain ⟨a, b, ws, nums, n, rfl, hW, hN, hnl, hn1, hn9, hI, hwl, q⟩ := h
    have hr1 : Room 1 _ := hr.mono (by decide)
    refine ⟨_, pss_cons (ps_if (PW.pt (pw_or (pt_not (pt_val (pe_call GR hr1 (by rfl) gR' FR'.kp bR' .nil pass0 (pa_cons (pv 2) pa_nil))))
        (pw_or1 (pt_not (pt_val (pe_callB (cr_all rfl) (by rfl) mall (by decide +kernel) (pa_cons (pe_lc (own := [("number", 3)]) (g := gName 3) (tt := tYes) (te := tOp (rI0 fun i j => .bl (decide (i < j))) (tVar 3) (tLen K (tVar 1))) (by rfl) scIsTree.nd (pi_list (pv 2))
          (blkOk_by (own := [("number", 3)]) (N := ["places", "ways", "numbers", "number"]) (sc := defScope sIsTree) (by decide +kernel)) (fun _ _ _ _ _ => pg_name (i := 3) scIsTree.nd rfl (Or.inl rfl)) (fun _ _ _ _ _ => pts_nil)
          (fun _ _ _ _ _ => pe_cmpR op_lt (pv 3) (pe_callB call_len_seq (by rfl) T.ml PySem.boot_len (pa_cons (pv 1) pa_nil)) (nomark _))) pa_nil))))))) (pss_one (ps_ret pe_bl)) pss_nil)
      (pss_one (ps_ret (pe_call GP hr (by rfl) gP FP.kp bP .nil pass0 (pa_cons (pv 0) (pa_cons (pe_call GW hr1 (by rfl) T.gW T.FW.kp T.bW .nil pass0 (pa_cons (pv 1) (pa_cons (pv 2) pa_nil))) pa_nil))))), ?_⟩
    refine ⟨_, rfl, b, nums, rfl, hN, hnl, fun H1 s1 => ⟨_, rfl, ?_⟩⟩
    cases hrise : ST.risingB nums with
    | false =>
      refine iteT ?_
      refine iteT ?_
      have ev : ST.isTreeB n ws nums = false := by unfold ST.isTreeB; rw [hrise]; rfl
      have := q H1 s1
      rw [ev] at this
      exact this
    | true =>
      refine iteF ?_
      refine ⟨_, rfl, b, rfl, ⟨_, s1.seq hN⟩, fun D nD => ?_⟩
      obtain ⟨as, hS, hP⟩ := id hW
      have hl : (as.map V.ref).length = ws.length := ways_len hP
      refine lc_list (K := K) (a := b) (xs := nVs nums) (fun i H2 => Same H1 H2 ∧ H2 D = some (.lst (((nums.take i).map fun x => decide (x < ws.length)).map V.bl))) ⟨same_upd nD, upd_same⟩ (fun i H2 _ h => (s1.trans h.1).seq hN) (fun i v H2 hv h => ?_) (fun H2 h => ?_)
      · obtain ⟨sm, eD⟩ := h
        obtain ⟨x, hx, rfl⟩ := nVs_get' hv
        have hil : i < nums.length := (List.getElem?_eq_some_iff.mp hx).1
        refine ⟨rfl, ?_⟩
        refine ⟨_, rfl, _, rfl, a, _, rfl, .inl ((s1.trans sm).seq hS), _, _, rfl, rfl, _, eD, by rw [List.length_map, List.length_map, List.length_take]; exact small (by omega), same_new sm nD, ?_⟩
        rw [upd_same, take_more hx, List.map_append, List.map_append, hl]
        congr 3
        show [V.bl (decide ((x : Int) < ((ws.length : Nat) : Int)))] = [V.bl (decide (x < ws.length))]
        congr 2
        by_cases c1 : x < ws.length
        · rw [decide_eq_true c1, decide_eq_true (by omega)]
        · rw [decide_eq_false c1, decide_eq_false (by omega)]
      · obtain ⟨sm, eD⟩ := h
        rw [nVs_len, List.take_length] at eD
        refine ⟨D, _, rfl, SqL.of eD, _, rfl, ?_⟩
        have eall : (nums.map fun x => decide (x < ws.length)).all id = nums.all fun x => decide (x < ws.length) := by rw [List.all_map]; rfl
        rw [eall]
        have s02 := s1.trans sm
        cases hall : nums.all fun x => decide (x < ws.length) with
        | false =>
          refine iteT ?_
          have ev : ST.isTreeB n ws nums = false := by unfold ST.isTreeB; rw [hall]; simp
          have := q H2 s02
          rw [ev] at this
          exact this
        | true =>
          refine iteF ?_
          have hlt : ∀ i ∈ nums, i < ws.length := fun i hi => by simpa using List.all_eq_true.mp hall i hi
          have hN2 : nums.length ≤ 2000 := by
            have nd : nums.Nodup := by
              have h1 : nums.Pairwise (· < ·) := of_decide_eq_true hrise
              exact h1.imp (fun h => by omega)
            have := ST.nodup_le ws.length nums nd hlt
            omega
          refine ⟨_, rfl, _, rfl, _, rfl, a, b, ws, nums, rfl, hW.same s02, s02.seq hN, hN2, hlt, fun H3 p s3 np hp => ?_⟩
          refine ⟨p, ST.someWays ws nums, n, rfl, hp, hn1, hn9, hI.some hlt, fun H4 s4 => ?_⟩
          have ev : ST.isTreeB n ws nums = ST.spansB n (ST.someWays ws nums) := by unfold ST.isTreeB; rw [hall, hrise]; rfl
          have := q H4 (s02.trans (s3.trans s4))
          rw [ev] at this
          exact this
end
end
end SP
end
section
set_option Elab.async false
set_option linter.all false
set_option maxRecDepth 100000
set_option maxHeartbeats 4000000
namespace ST
theorem pairsL_get : ∀ (l : List Nat) (i : Nat), 2 * i + 1 < l.length → (pairsL l)[i]? = some (l.getD (2 * i) 0, l.getD (2 * i + 1) 0)
  | [], _, h => by simp at h
  | [_], i, h => by simp at h
  | a :: b :: l, 0, _ => rfl
  | a :: b :: l, i + 1, h => by
    have ih := pairsL_get l i (by simp at h; omega)
    have e : 2 * (i + 1) = 2 * i + 1 + 1 := by omega
    simp only [pairsL, List.getElem?_cons_succ, ih, e, List.getD_cons_succ]
end ST
namespace SP
open PySem PySem.Spec PyProof.Rows L2
section
variable {P : Program} {w : World} {K : PySem.W.Frag} {mg : Str → Option Value} {base : Heap}
/-! ### pairs_of(numbers) -/
abbrev sPairs : Stmt := topS 35
theorem scPairs : FnScope ["numbers", "at"] ["numbers"] (defScope sPairs) := ⟨rfl, rfl, rfl, by decide +kernel, rfl, by decide +kernel, by decide +kernel⟩
def spPairs (K : PySem.W.Frag) : Sp := fun vs H Q _ => ∃ (b : Addr) (nums : List Nat), vs = [.ref b] ∧ SqL K H b (nVs nums) ∧ nums.length ≤ 20000 ∧ nums.length % 2 = 0 ∧
  ∀ (H' : Hp) (p : Addr), Same H H' → H p = none → OwnWays H' p (ST.pairsL nums) → Q (.ref p) H'
theorem rg2 {m : Nat} (h : 2 * m ≤ 20000) : RgC 0 ((2 * m : Nat) : Int) 2 m := by
  refine ⟨by decide, by decide, ?_, ?_⟩
  · have fits : ∀ x : Int, -100000 ≤ x → x ≤ 100000 → Builtin.Range.rangeFitsLong x = true := fun x h1 h2 => by
      unfold Builtin.Range.rangeFitsLong
      simp only [Bool.and_eq_true, decide_eq_true_eq]
      omega
    have hs : Builtin.Range.rangeSize 0 ((2 * m : Nat) : Int) 2 = m := by
      unfold Builtin.Range.rangeSize
      rw [if_pos (by decide)]
      split <;> omega
    unfold Builtin.Range.small
    rw [hs, fits 0 (by omega) (by omega), fits ((2 * m : Nat) : Int) (by omega) (by omega), fits 2 (by omega) (by omega), fits (m : Int) (by omega) (by omega), if_pos (by decide), fits _ (by omega) (by omega), Bool.or_true]
    rfl
  · unfold Builtin.Range.rangeSize
    rw [if_pos (by decide)]
    split <;> omega
theorem ok_pairs {f : Addr} {fd : FuncData} {k : Nat} (F : Fun K "pairs_of" "pairs_of" sPairs f fd) (ml : mg "len" = none) (mr : mg "range" = none) : FnOk P w K mg base CX0 (k + 1) f fd ["numbers"] (spPairs K) := by
  refine F.ok scPairs (fun vs H Q E h => ?_) (fun cdv A outer s H vs Q E hr h => ?_)
  · obtain ⟨b, nums, rfl, _⟩ := h
    rfl
  · obtain ⟨b, nums, rfl, hN, hlen, hev, q⟩ := h
    refine ⟨_, pss_one (ps_ret (pe_lc (own := [("at", 1)]) (g := gName 1) (tt := tYes) (te := tTup (tCons (tOp (rIxL K) (tVar 0) (tVar 1)) (tCons (tOp (rIxL K) (tVar 0) (tPlus1 1)) tNil))) (by rfl) scPairs.nd
      (pi_range3 rfl mr (pa_cons pe_int (pa_cons (pe_callB call_len_seq (by rfl) ml PySem.boot_len (pa_cons (pv 0) pa_nil)) (pa_cons pe_int pa_nil)))) (blkOk_by (own := [("at", 1)]) (N := ["numbers", "at"]) (sc := defScope sPairs) (by decide +kernel))
      (fun _ _ _ _ _ => pg_name (i := 1) scPairs.nd rfl (Or.inl rfl)) (fun _ _ _ _ _ => pts_nil) (fun _ _ _ _ _ => pe_tup (pa_cons (pe_ix ix_list (pv 0) (pv 1) (fun _ _ => rfl)) (pa_cons (pe_ix ix_list (pv 0) (pe_op op_add (pv 1) pe_int) (fun _ _ => rfl)) pa_nil))))), ?_⟩
    obtain ⟨m, hm⟩ : ∃ m, nums.length = 2 * m := ⟨nums.length / 2, by omega⟩
    refine ⟨_, rfl, b, _, rfl, .inl hN, 0, _, 2, m, rfl, by rw [nVs_len, hm]; exact rg2 (by omega), fun D nD => ?_⟩
    refine lc_it (walk_rangeC (lo := 0) (c := 2) (n := m)) (fun i H1 => Same H H1 ∧ ∃ bs : List Addr, H1 D = some (.lst (bs.map V.ref)) ∧ Paired (WayAt H1) bs ((ST.pairsL nums).take i)) ⟨same_upd nD, [], upd_same, .nil⟩ (fun _ _ _ _ => trivial) (fun i v H1 H1' hi h hy => ?_) (fun H1 h => ?_)
    · obtain ⟨sm, bs, eD, hB⟩ := h
      obtain ⟨e1, e2⟩ := hy
      cases e1
      have ei : (0 : Int) + ((i : Nat) : Int) * 2 = ((2 * i : Nat) : Int) := by omega
      have e3 : v = .int ((2 * i : Nat) : Int) := by rw [e2, ← ei]
      subst e3
      have g1 : (nVs nums)[2 * i]? = some (.int ((nums.getD (2 * i) 0 : Nat) : Int)) := nVs_get (by rw [List.getD_eq_getElem?_getD, List.getElem?_eq_getElem (by omega)]; rfl)
      have g2 : (nVs nums)[2 * i + 1]? = some (.int ((nums.getD (2 * i + 1) 0 : Nat) : Int)) := nVs_get (by rw [List.getD_eq_getElem?_getD, List.getElem?_eq_getElem (by omega)]; rfl)
      have ei1 : ((2 * i : Nat) : Int) + 1 = ((2 * i + 1 : Nat) : Int) := by omega
      have hbl : bs.length ≤ 20000 := by
        have := Paired.length hB
        rw [List.length_take] at this
        omega
      refine ⟨rfl, ?_⟩
      refine ⟨_, rfl, _, rfl, b, _, _, _, rfl, rfl, sm.seq hN, atI_nat g1, _, rfl, _, rfl, _, _, rfl, rfl, b, _, _, _, rfl, rfl, sm.seq hN, (show atI (nVs nums) (((2 * i : Nat) : Int) + 1) = some (.int ((nums.getD (2 * i + 1) 0 : Nat) : Int)) by rw [ei1]; exact atI_nat g2), (by show 2 ≤ sizeLine; decide), fun t nt => ?_⟩
      have hDt : D ≠ t := ne_of_none eD nt
      refine ⟨_, by rw [upd_ne hDt]; exact eD, by rw [List.length_map]; exact small (by omega), same_new (same_new sm (sm.free nt)) nD, bs ++ [t], ?_, ?_⟩
      · rw [upd_same, List.map_append]; rfl
      · rw [take_more (ST.pairsL_get nums i (by omega))]
        refine Paired.snoc (paired_imp hB fun p v hp hv => ?_) ?_
        · have h1 : p ≠ t := ne_of_none (show H1 p = some _ from hv) nt
          have h2 : p ≠ D := ne_of (show H1 p = some _ from hv) eD (by intro z; cases z)
          show (upd (upd H1 t _) D _) p = _
          rw [upd_ne h2, upd_ne h1]
          exact hv
        · show (upd (upd H1 t _) D _) t = _
          rw [upd_ne (Ne.symm hDt), upd_same]
    · obtain ⟨sm, bs, eD, hB⟩ := h
      have e3 : (ST.pairsL nums).take m = ST.pairsL nums := List.take_of_length_le (by rw [ST.pairsL_length, hm]; omega)
      rw [e3] at hB
      exact q H1 D sm nD ⟨bs, eD, hB⟩
/-! ### are_places(numbers, many) -/
abbrev sPlaces : Stmt := topS 36
theorem scPlaces : FnScope ["numbers", "many", "number"] ["numbers", "many"] (defScope sPlaces) := ⟨rfl, rfl, rfl, by decide +kernel, rfl, by decide +kernel, by decide +kernel⟩
def spPlaces (K : PySem.W.Frag) : Sp := fun vs H Q _ => ∃ (b : Addr) (nums : List Nat) (n : Nat), vs = [.ref b, .int (n : Int)] ∧ SqL K H b (nVs nums) ∧ nums.length ≤ 20000 ∧ ∀ H' : Hp, Same H H' → Q (.bl (ST.allLt n nums)) H'
theorem ok_places {f : Addr} {fd : FuncData} {k : Nat} (F : Fun K "are_places" "are_places" sPlaces f fd) (mall : mg "all" = none) : FnOk P w K mg base CX0 (k + 1) f fd ["numbers", "many"] (spPlaces K) := by
  refine F.ok scPlaces (fun vs H Q E h => ?_) (fun cdv A outer s H vs Q E hr h => ?_)
  · obtain ⟨b, nums, n, rfl, _⟩ := h
    rfl
  · obtain ⟨b, nums, n, rfl, hN, hlen, q⟩ := h
    refine ⟨_, pss_one (ps_ret (pe_callB (cr_all rfl) (by rfl) mall (by decide +kernel) (pa_cons (pe_lc (own := [("number", 2)]) (g := gName 2) (tt := tYes) (te := tOp (rI0 fun i j => .bl (decide (i < j))) (tVar 2) (tVar 1)) (by rfl) scPlaces.nd (pi_list (pv 0))
      (blkOk_by (own := [("number", 2)]) (N := ["numbers", "many", "number"]) (sc := defScope sPlaces) (by decide +kernel)) (fun _ _ _ _ _ => pg_name (i := 2) scPlaces.nd rfl (Or.inl rfl)) (fun _ _ _ _ _ => pts_nil)
      (fun _ _ _ _ _ => pe_cmpR op_lt (pv 2) (pv 1) (nomark _))) pa_nil))), ?_⟩
    refine ⟨_, rfl, b, rfl, ⟨_, hN⟩, fun D nD => ?_⟩
    refine lc_list (K := K) (a := b) (xs := nVs nums) (fun i H2 => Same H H2 ∧ H2 D = some (.lst (((nums.take i).map fun x => decide (x < n)).map V.bl))) ⟨same_upd nD, upd_same⟩ (fun i H2 _ h => h.1.seq hN) (fun i v H2 hv h => ?_) (fun H2 h => ?_)
    · obtain ⟨sm, eD⟩ := h
      obtain ⟨x, hx, rfl⟩ := nVs_get' hv
      have hil : i < nums.length := (List.getElem?_eq_some_iff.mp hx).1
      refine ⟨rfl, ?_⟩
      refine ⟨_, rfl, _, rfl, _, _, rfl, rfl, _, eD, by rw [List.length_map, List.length_map, List.length_take]; exact small (by omega), same_new sm nD, ?_⟩
      rw [upd_same, take_more hx, List.map_append, List.map_append]
      congr 3
      show [V.bl (decide ((x : Int) < (n : Int)))] = [V.bl (decide (x < n))]
      congr 2
      by_cases c1 : x < n
      · rw [decide_eq_true c1, decide_eq_true (by omega)]
      · rw [decide_eq_false c1, decide_eq_false (by omega)]
    · obtain ⟨sm, eD⟩ := h
      rw [nVs_len, List.take_length] at eD
      refine ⟨D, _, rfl, SqL.of eD, ?_⟩
      have eall : (nums.map fun x => decide (x < n)).all id = ST.allLt n nums := by rw [List.all_map]; rfl
      rw [eall]
      exact q H2 sm
/-! ### common(one, other) -/
abbrev sCommon : Stmt := topS 37
theorem scCommon : FnScope ["one", "other"] ["one", "other"] (defScope sCommon) := ⟨rfl, rfl, rfl, by decide +kernel, rfl, by decide +kernel, by decide +kernel⟩
def spCommon : Sp := fun vs H Q _ => ∃ (a b : Nat), vs = [.int (a : Int), .int (b : Int)] ∧ Q (.int ((Nat.gcd a b : Nat) : Int)) H
theorem ok_common {f : Addr} {fd : FuncData} {k : Nat} (F : Fun K "common" "common" sCommon f fd) : FnOk P w K mg base CX0 (k + 1) f fd ["one", "other"] spCommon := by
  refine F.ok scCommon (fun vs H Q E h => ?_) (fun cdv A outer s H vs Q E hr h => ?_)
  · obtain ⟨a, b, rfl, _⟩ := h
    rfl
  · obtain ⟨a, b, rfl, q⟩ := h
    refine ⟨_, pss_cons (ps_while PassesOwn.never (pt_cmpR op_gt (pv 1) pe_int (nomark _))
        (pss_one (ps_par (by rfl) scCommon.nd (i := 0) (j := 1) rfl rfl (by decide) rfl rfl (pa_cons (pv 1) (pa_cons (pe_op op_mod (pv 0) (pv 1)) pa_nil)) (by rfl))))
      (pss_one (ps_ret (pv 0))), ?_⟩
    refine while_by (fun σ H1 => ∃ x y : Nat, σ = [some (.int (x : Int)), some (.int (y : Int))] ∧ H1 = H ∧ Nat.gcd x y = Nat.gcd a b) (fun σ _ => match σ with | [_, some (.int z)] => z.toNat | _ => 0) ⟨a, b, rfl, rfl, rfl⟩ (fun σ H1 h => ?_) (fun σ H1 Q1 Q2 hQ h => ?_)
    · obtain ⟨x, y, rfl, rfl, hg⟩ := h
      refine ⟨_, rfl, _, _, rfl, rfl, _, rfl, ite2 (fun e => ?_) (fun e => ?_)⟩
      · have hy : 0 < y := by have := of_decide_eq_true e; omega
        refine ⟨_, rfl, _, rfl, _, rfl, _, _, rfl, rfl, (by show (0 : Int) < (y : Int); omega), _, _, rfl, ?_⟩
        have em : (x : Int) % (y : Int) = ((x % y : Nat) : Int) := by omega
        refine ⟨⟨y, x % y, ?_, rfl, ?_⟩, ?_⟩
        · rw [← em]; rfl
        · rw [← hg, Nat.gcd_comm x y, Nat.gcd_rec y x, Nat.gcd_comm]
        · show ((x : Int) % (y : Int)).toNat < (y : Int).toNat
          rw [em]
          have := Nat.mod_lt x hy
          omega
      · have hy : y = 0 := by
          by_cases z : 0 < y
          · exact absurd (decide_eq_true (by omega)) e
          · omega
        subst hy
        rw [Nat.gcd_zero_right] at hg
        subst hg
        exact ⟨_, rfl, q⟩
    · obtain ⟨v, e1, i, j, e2, e3, k', e4, h'⟩ := h
      exact ⟨v, e1, i, j, e2, e3, k', e4, hQ _ _ h'⟩
/-! ### lowest(top, under) -/
abbrev sLowest : Stmt := topS 38
theorem scLowest : FnScope ["top", "under", "part"] ["top", "under"] (defScope sLowest) := ⟨rfl, rfl, rfl, by decide +kernel, rfl, by decide +kernel, by decide +kernel⟩
def spLowest : Sp := fun vs H Q _ => ∃ (t u : Nat), vs = [.int (t : Int), .int (u : Int)] ∧ 0 < u ∧ u < 1073741824 ∧ ∀ (H' : Hp) (p : Addr), Same H H' → H p = none → H' p = some (.lst [.int ((t / Nat.gcd u t : Nat) : Int), .int ((u / Nat.gcd u t : Nat) : Int)]) → Q (.ref p) H'
theorem ok_lowest {f fC' : Addr} {fd dC' : FuncData} (F : Fun K "lowest" "lowest" sLowest f fd) (FC' : Fun K "common" "common" sCommon fC' dC') (bC' : Binds K dC' ["one", "other"] []) (gC' : mg "common" = some (.ref fC')) : FnOk P w K mg base CX0 2 f fd ["top", "under"] spLowest := by
  have GC : FnOk P w K mg base CX0 1 fC' dC' ["one", "other"] spCommon := ok_common FC'
  refine F.ok scLowest (fun vs H Q E h => ?_) (fun cdv A outer s H vs Q E hr h => ?_)
  · obtain ⟨t, u, rfl, _⟩ := h
    rfl
  · obtain ⟨t, u, rfl, hu, hu2, q⟩ := h
    refine ⟨_, pss_cons (ps_set (i := 2) scLowest.nd rfl (.inl rfl) (pe_call GC hr (by rfl) gC' FC'.kp bC' .nil pass0 (pa_cons (pv 1) (pa_cons (pv 0) pa_nil))))
      (pss_one (ps_ret (pe_lst (pa_cons (pe_op op_fdiv (pv 0) (pv 2)) (pa_cons (pe_op op_fdiv (pv 1) (pv 2)) pa_nil))))), ?_⟩
    have hg : 0 < Nat.gcd u t := Nat.gcd_pos_of_pos_left t hu
    have hg2 : Nat.gcd u t ≤ u := Nat.le_of_dvd hu (Nat.gcd_dvd_left u t)
    refine ⟨_, rfl, _, rfl, u, t, rfl, ?_⟩
    refine ⟨_, rfl, _, rfl, _, _, rfl, rfl, ⟨by omega, by omega⟩, _, rfl, _, rfl, _, _, rfl, rfl, ⟨by omega, by omega⟩, by show 2 ≤ sizeLine; decide, fun p np => ?_⟩
    refine q _ p (same_upd np) np ?_
    rw [upd_same]
    rfl
end
end SP
end
section
set_option Elab.async false
set_option linter.all false
set_option maxRecDepth 100000
set_option maxHeartbeats 4000000
namespace SP
open PySem PySem.Spec PyProof.Rows L2
/-- the module's constants -/
structure Cons (mg : Str → Option Value) : Prop where
  wrong : ∃ t, mg "WRONG" = some (.int (-1) t)
  noWay : ∃ t, mg "NO_WAY" = some (.int (-2) t)
  noneSuch : ∃ t, mg "NONE_SUCH" = some (.int (-3) t)
  noTree : ∃ t, mg "NO_TREE" = some (.int (-4) t)
  tooMany : ∃ t, mg "TOO_MANY" = some (.int (-5) t)
  last : ∃ t, mg "LAST" = some (.int (-6) t)
  places : ∃ t, mg "MOST_PLACES" = some (.int 9 t)
  ways : ∃ t, mg "MOST_WAYS" = some (.int 20 t)
  listed : ∃ t, mg "MOST_LISTED" = some (.int 100 t)
def iVs (l : List Int) : List V := l.map V.int
theorem inL_V (l : List Nat) : iVs (ST.inL l) = nVs l := (nVs_int l).symm
theorem cat_ok {H : Hp} {a b : Addr} {xs ys : List V} {Q : VK} (ha : H a = some (.lst xs)) (hb : H b = some (.lst ys)) (hz : xs.length + ys.length ≤ 100000) (q : ∀ p, H p = none → Q (.ref p) (upd H p (.lst (xs ++ ys)))) : rCat (.ref a) (.ref b) H Q :=
  ⟨a, b, xs, ys, rfl, rfl, ha, hb, smallE hz, q⟩
section
variable {P : Program} {w : World} {K : PySem.W.Frag} {mg : Str → Option Value} {base : Heap}
/-! ### told_row(n, numbers) -/
abbrev sToldRow : Stmt := topS 39
theorem scToldRow : FnScope ["n", "numbers", "ways"] ["n", "numbers"] (defScope sToldRow) := ⟨rfl, rfl, rfl, by decide +kernel, rfl, by decide +kernel, by decide +kernel⟩
def spToldRow (K : PySem.W.Frag) : Sp := fun vs H Q _ => ∃ (b : Addr) (nums : List Nat) (n : Nat) (g : Sq57.Graph), vs = [.int (n : Int), .ref b] ∧ SqL K H b (nVs nums) ∧ nums.length ≤ 20000 ∧
  ∀ (H' : Hp) (p : Addr), Same H H' → H p = none → H' p = some (.lst (iVs (ST.ans g (.toRow n nums)))) → Q (.ref p) H'
theorem rowGo_len (n : Nat) : ∀ (f : Nat) (l : List ST.Way), (ST.rowGo n f l).length = f
  | 0, _ => rfl
  | f + 1, l => by simp only [ST.rowGo, List.length_cons, rowGo_len n f]
structure Rws (K : PySem.W.Frag) (mg : Str → Option Value) (fW fL fO fR : Addr) (dW dL dO dR : FuncData) : Prop where
  FW : Fun K "ways_at" "ways_at" sWaysAt fW dW
  bW : Binds K dW ["ways", "place"] []
  gW : mg "ways_at" = some (.ref fW)
  FL : Fun K "least_end" "least_end" sLeast fL dL
  bL : Binds K dL ["places", "ways"] []
  gL : mg "least_end" = some (.ref fL)
  FO : Fun K "other_end" "other_end" sOther fO dO
  bO : Binds K dO ["way", "place"] []
  gO : mg "other_end" = some (.ref fO)
  FR : Fun K "row_of" "row_of" sRowOf fR dR
  bR : Binds K dR ["places", "ways"] []
  gR : mg "row_of" = some (.ref fR)
structure Chk (K : PySem.W.Frag) (mg : Str → Option Value) (fP fQ fS : Addr) (dP dQ dS : FuncData) : Prop where
  FP : Fun K "pairs_of" "pairs_of" sPairs fP dP
  bP : Binds K dP ["numbers"] []
  gP : mg "pairs_of" = some (.ref fP)
  FQ : Fun K "are_places" "are_places" sPlaces fQ dQ
  bQ : Binds K dQ ["numbers", "many"] []
  gQ : mg "are_places" = some (.ref fQ)
  FS : Fun K "spans" "spans" sSpans fS dS
  bS : Binds K dS ["places", "ways"] []
  gS : mg "spans" = some (.ref fS)
  mall : mg "all" = none
section
variable {fM fB fO fT fR fS fC fA fW : Addr} {dM dB dO dT dR dS dC dA dW : FuncData} {rW rL rO rR : Addr} {eW eL eO eR : FuncData} {cP cQ cS : Addr} {hP hQ hS : FuncData}
theorem ok_toldRow {f : Addr} {fd : FuncData} (F : Fun K "told_row" "told_row" sToldRow f fd) (T : Cnt K mg fM fB fO fT fR fS fC fA fW dM dB dO dT dR dS dC dA dW) (R : Rws K mg rW rL rO rR eW eL eO eR) (C : Chk K mg cP cQ cS hP hQ hS) (N : Cons mg) :
    FnOk P w K mg base CX0 4 f fd ["n", "numbers"] (spToldRow K) := by
  have GP : FnOk P w K mg base CX0 1 cP hP ["numbers"] (spPairs K) := ok_pairs C.FP T.ml T.mr
  have GQ : FnOk P w K mg base CX0 1 cQ hQ ["numbers", "many"] (spPlaces K) := ok_places C.FQ C.mall
  have GS : FnOk P w K mg base CX0 3 cS hS ["places", "ways"] (spSpans K) := ok_spans C.FS T
  have GR : FnOk P w K mg base CX0 3 rR eR ["places", "ways"] (spRowOf K) := ok_rowOf R.FR R.FW R.bW R.gW R.FL R.bL R.gL R.FO R.bO R.gO T.ml T.mr T.mli
  obtain ⟨t1, n1⟩ := N.noneSuch
  obtain ⟨t2, n2⟩ := N.wrong
  obtain ⟨t3, n3⟩ := N.noTree
  obtain ⟨t4, n4⟩ := N.places
  refine F.ok scToldRow (fun vs H Q E h => ?_) (fun cdv A outer s H vs Q E hr h => ?_)
  · obtain ⟨b, nums, n, g, rfl, _⟩ := h
    rfl
  · obtain ⟨b, nums, n, g, rfl, hN, hlen, q⟩ := h
    have hr1 : Room 1 _ := hr.mono (by decide)
    refine ⟨_, pss_cons (ps_if (pt_cmpR op_eq (pe_op op_mod (pe_callB call_len_seq (by rfl) T.ml PySem.boot_len (pa_cons (pv 1) pa_nil)) pe_int) pe_int (nomark _)) (pss_one (ps_ret (pe_lst (pa_cons (pe_glob rfl n1 (v := .int (-3)) ⟨_, rfl⟩) pa_nil)))) pss_nil)
      (pss_cons (ps_if (PW.pt (pw_or (pt_not (pt_chain op_le op_le pe_int (pv 0) (pe_glob rfl n4 (v := .int 9) ⟨_, rfl⟩))) (pw_or1 (pt_not (pt_val (pe_call GQ hr1 (by rfl) C.gQ C.FQ.kp C.bQ .nil pass0 (pa_cons (pv 1) (pa_cons (pv 0) pa_nil))))))))
        (pss_one (ps_ret (pe_lst (pa_cons (pe_glob rfl n2 (v := .int (-1)) ⟨_, rfl⟩) pa_nil)))) pss_nil)
      (pss_cons (ps_set (i := 2) scToldRow.nd rfl (.inl rfl) (pe_call GP hr1 (by rfl) C.gP C.FP.kp C.bP .nil pass0 (pa_cons (pv 1) pa_nil)))
      (pss_cons (ps_if (pt_not (pt_val (pe_call GS hr (by rfl) C.gS C.FS.kp C.bS .nil pass0 (pa_cons (pv 0) (pa_cons (pv 2) pa_nil))))) (pss_one (ps_ret (pe_lst (pa_cons (pe_glob rfl n3 (v := .int (-4)) ⟨_, rfl⟩) pa_nil)))) pss_nil)
      (pss_one (ps_ret (pe_op op_cat (pe_lst (pa_cons (pe_op op_sub (pv 0) pe_int) pa_nil)) (pe_call GR hr (by rfl) R.gR R.FR.kp R.bR .nil pass0 (pa_cons (pv 0) (pa_cons (pv 2) pa_nil))))))))), ?_⟩
    have one : ∀ (H1 : Hp) (z : Int), Same H H1 → ST.ans g (.toRow n nums) = [z] → ([V.int z].length ≤ sizeLine ∧ ∀ p, H1 p = none → Q (.ref p) (upd H1 p (.lst [V.int z]))) := fun H1 z s1 e =>
      ⟨by show 1 ≤ sizeLine; decide, fun p np => q _ p (same_new s1 (s1.free np)) (s1.free np) (by rw [upd_same, e]; rfl)⟩
    refine ⟨_, rfl, b, _, rfl, .inl hN, _, _, rfl, rfl, (by show (0 : Int) < 2; decide), rfl, _, rfl, ?_⟩
    rw [nVs_len]
    refine ite2 (fun e => ?_) (fun e => ?_)
    · have e1 : V.int (((nums.length : Nat) : Int) % 2) = V.int 1 := of_decide_eq_true e
      have e2 : nums.length % 2 = 1 := by injection e1 with e1; omega
      exact one H (-3) (Same.refl H) (ST.ans_toRowO e2)
    · have e2 : nums.length % 2 = 0 := by
        rcases Nat.mod_two_eq_zero_or_one nums.length with z | z
        · exact z
        · exact absurd (decide_eq_true (show V.int (((nums.length : Nat) : Int) % 2) = V.int 1 from congrArg V.int (by omega))) e
      -- 2 <= n <= MOST_PLACES
      have wr : ¬ (2 ≤ n ∧ n ≤ 9) → ([V.int (-1)].length ≤ sizeLine ∧ ∀ p, H p = none → Q (.ref p) (upd H p (.lst [V.int (-1)]))) := fun z => one H (-1) (Same.refl H) (ST.ans_toRowW e2 (.inl z))
      refine ⟨_, rfl, _, _, rfl, rfl, _, rfl, ?_⟩
      refine ite2 (fun c1 => ?_) (fun c1 => ?_)
      · have d1 : (2 : Int) ≤ (n : Int) := of_decide_eq_true c1
        refine ⟨_, _, rfl, rfl, _, rfl, ?_⟩
        by_cases c2 : (n : Int) ≤ 9
        · rw [decide_eq_true c2]
          refine iteF ?_
          have hn : 2 ≤ n ∧ n ≤ 9 := ⟨by omega, by omega⟩
          refine ⟨_, rfl, _, rfl, b, nums, n, rfl, hN, hlen, fun H1 s1 => ⟨_, rfl, ?_⟩⟩
          cases hall : ST.allLt n nums with
          | false => exact iteT (one H1 (-1) s1 (ST.ans_toRowW e2 (.inr hall)))
          | true =>
            refine iteF ?_
            refine ⟨_, rfl, b, nums, rfl, s1.seq hN, hlen, e2, fun H2 p s2 np hp0 => ?_⟩
            have hp : IsWays K H2 p (ST.pairsL nums) := hp0.is
            have s02 := s1.trans s2
            have hI := ST.pairsL_ins nums hall
            refine ⟨_, rfl, _, rfl, p, ST.pairsL nums, n, rfl, hp, by omega, hn.2, hI, fun H3 s3 => ⟨_, rfl, ?_⟩⟩
            have s03 := s02.trans s3
            cases hsp : ST.spansB n (ST.pairsL nums) with
            | false => exact iteT (one H3 (-4) s03 (ST.ans_toRowN e2 hn hall hsp))
            | true =>
              refine iteF ?_
              obtain ⟨hF, hl⟩ := ST.forest_of_spans hI hsp
              refine ⟨_, rfl, _, _, rfl, rfl, (by show 1 ≤ sizeLine; decide), fun c nc => ?_⟩
              have s4 : Same H3 (upd H3 c (.lst [V.int ((n : Int) - 2)])) := same_upd nc
              refine ⟨_, rfl, _, rfl, p, ST.pairsL nums, n, rfl, (hp.same s3).same s4, hn.1, hn.2, hF, hl, fun H5 p5 s5 np5 hp5 => ?_⟩
              have s35 := s4.trans s5
              refine cat_ok (s5 _ _ upd_same) hp5 (by rw [nVs_len]; show 1 + _ ≤ _; unfold ST.rowOf; rw [rowGo_len]; omega) fun p6 np6 => ?_
              have s05 := s03.trans s35
              refine q _ p6 (same_new s05 (s05.free np6)) (s05.free np6) ?_
              rw [upd_same, ST.ans_toRow e2 hn hall hsp]
              show _ = some (HO.lst (V.int ((n : Int) - 2) :: iVs (ST.inL (ST.rowOf n (ST.pairsL nums)))))
              rw [inL_V]
              rfl
        · rw [decide_eq_false c2]
          refine iteT ?_
          exact wr (by omega)
      · have d1 : ¬ (2 : Int) ≤ (n : Int) := fun z => c1 (decide_eq_true z)
        refine ⟨_, rfl, iteT ?_⟩
        exact wr (by omega)
/-! ### told_tree(n, row) -/
abbrev sToldTree : Stmt := topS 40
theorem scToldTree : FnScope ["n", "row", "found", "one", "other"] ["n", "row"] (defScope sToldTree) := ⟨rfl, rfl, rfl, by decide +kernel, rfl, by decide +kernel, by decide +kernel⟩
def spToldTree (K : PySem.W.Frag) : Sp := fun vs H Q _ => ∃ (b : Addr) (nums : List Nat) (n : Nat) (g : Sq57.Graph), vs = [.int (n : Int), .ref b] ∧ SqL K H b (nVs nums) ∧ nums.length ≤ 20000 ∧
  ∀ (H' : Hp) (p : Addr), Same H H' → H p = none → H' p = some (.lst (iVs (ST.ans g (.ofRow n nums)))) → Q (.ref p) H'
structure Trw (K : PySem.W.Frag) (mg : Str → Option Value) (fL fT : Addr) (dL dT : FuncData) : Prop where
  FL : Fun K "lesser_first" "lesser_first" sLesser fL dL
  bL : Binds K dL ["one", "other"] []
  gL : mg "lesser_first" = some (.ref fL)
  FT : Fun K "tree_of_row" "tree_of_row" sTreeRow fT dT
  bT : Binds K dT ["places", "row"] []
  gT : mg "tree_of_row" = some (.ref fT)
  men : mg "enumerate" = none
  mso : mg "sorted" = none
theorem treeRow_len : ∀ (row left : List Nat), (ST.treeRow left row).length = row.length + 1
  | [], _ => rfl
  | p :: r, left => by simp only [ST.treeRow, List.length_cons, treeRow_len r]
theorem inOrder_len (l : List ST.Way) : (Sq57.inOrder l).length = l.length := by
  have := (ST.inOrder_go l [] List.Pairwise.nil).2.length_eq
  unfold Sq57.inOrder
  simpa using this
def flat2 (ws : List ST.Way) : List Nat := ws.flatMap fun w => [w.1, w.2]
theorem flat2_len : ∀ ws : List ST.Way, (flat2 ws).length = 2 * ws.length
  | [] => rfl
  | w :: r => by
    have ih := flat2_len r
    unfold flat2 at ih ⊢
    rw [List.flatMap_cons, List.length_append, ih, List.length_cons]
    simp
    omega
theorem flat2_snoc (ws : List ST.Way) (w : ST.Way) : flat2 (ws ++ [w]) = flat2 ws ++ [w.1, w.2] := by simp [flat2]
theorem ok_toldTree {f tL tT : Addr} {fd uL uT : FuncData} (F : Fun K "told_tree" "told_tree" sToldTree f fd) (T : Cnt K mg fM fB fO fT fR fS fC fA fW dM dB dO dT dR dS dC dA dW) (R : Trw K mg tL tT uL uT) (C : Chk K mg cP cQ cS hP hQ hS) (N : Cons mg) :
    FnOk P w K mg base CX0 3 f fd ["n", "row"] (spToldTree K) := by
  have GQ : FnOk P w K mg base CX0 1 cQ hQ ["numbers", "many"] (spPlaces K) := ok_places C.FQ C.mall
  have GT : FnOk P w K mg base CX0 2 tT uT ["places", "row"] (spTreeRow K) := ok_treeRow R.FT R.FL R.bL R.gL T.mmin T.mmax T.mr T.mli R.men R.mso
  obtain ⟨t1, n1⟩ := N.noneSuch
  obtain ⟨t2, n2⟩ := N.wrong
  obtain ⟨t4, n4⟩ := N.places
  refine F.ok scToldTree (fun vs H Q E h => ?_) (fun cdv A outer s H vs Q E hr h => ?_)
  · obtain ⟨b, nums, n, g, rfl, _⟩ := h
    rfl
  · obtain ⟨b, nums, n, g, rfl, hN, hlen, q⟩ := h
    have hr1 : Room 1 _ := hr.mono (by decide)
    refine ⟨_, pss_cons (ps_if (PW.pt (pw_or (pt_not (pt_chain op_le op_le pe_int (pv 0) (pe_glob rfl n4 (v := .int 9) ⟨_, rfl⟩))) (pw_or1 (pt_not (pt_val (pe_call GQ hr1 (by rfl) C.gQ C.FQ.kp C.bQ .nil pass0 (pa_cons (pv 1) (pa_cons (pv 0) pa_nil))))))))
        (pss_one (ps_ret (pe_lst (pa_cons (pe_glob rfl n2 (v := .int (-1)) ⟨_, rfl⟩) pa_nil)))) pss_nil)
      (pss_cons (ps_if (pt_cmpR op_ne (pe_callB call_len_seq (by rfl) T.ml PySem.boot_len (pa_cons (pv 1) pa_nil)) (pe_op op_sub (pv 0) pe_int) (nomark _)) (pss_one (ps_ret (pe_lst (pa_cons (pe_glob rfl n1 (v := .int (-3)) ⟨_, rfl⟩) pa_nil)))) pss_nil)
      (pss_cons (ps_set (i := 2) scToldTree.nd rfl (.inl rfl) (pe_lst (pa_cons (pe_op op_sub (pv 0) pe_int) pa_nil)))
      (pss_cons (ps_for PassesOwn.never rfl (pi_list (pe_call GT hr (by rfl) R.gT R.FT.kp R.bT .nil pass0 (pa_cons (pv 0) (pa_cons (pv 1) pa_nil)))) (pg_tup rfl (pgs_cons (pg_name (i := 3) scToldTree.nd rfl (.inl rfl)) (pgs_cons (pg_name (i := 4) scToldTree.nd rfl (.inl rfl)) pgs_nil)))
        (pss_cons (ps_expr (pe_bm PySem.F.plainAttrs_list PySem.F.slot_list_append PySem.F.type_list_append mt_append (pv 2) (pa_cons (pv 3) pa_nil)))
        (pss_one (ps_expr (pe_bm PySem.F.plainAttrs_list PySem.F.slot_list_append PySem.F.type_list_append mt_append (pv 2) (pa_cons (pv 4) pa_nil))))))
      (pss_one (ps_ret (pv 2)))))), ?_⟩
    have one : ∀ (H1 : Hp) (z : Int), Same H H1 → ST.ans g (.ofRow n nums) = [z] → ([V.int z].length ≤ sizeLine ∧ ∀ p, H1 p = none → Q (.ref p) (upd H1 p (.lst [V.int z]))) := fun H1 z s1 e =>
      ⟨by show 1 ≤ sizeLine; decide, fun p np => q _ p (same_new s1 (s1.free np)) (s1.free np) (by rw [upd_same, e]; rfl)⟩
    have wr : ¬ (2 ≤ n ∧ n ≤ 9) → ([V.int (-1)].length ≤ sizeLine ∧ ∀ p, H p = none → Q (.ref p) (upd H p (.lst [V.int (-1)]))) := fun z => one H (-1) (Same.refl H) (ST.ans_ofRowW (.inl z))
    refine ⟨_, rfl, _, _, rfl, rfl, _, rfl, ?_⟩
    refine ite2 (fun c1 => ?_) (fun c1 => ?_)
    · have d1 : (2 : Int) ≤ (n : Int) := of_decide_eq_true c1
      refine ⟨_, _, rfl, rfl, _, rfl, ?_⟩
      by_cases c2 : (n : Int) ≤ 9
      · rw [decide_eq_true c2]
        refine iteF ?_
        have hn : 2 ≤ n ∧ n ≤ 9 := ⟨by omega, by omega⟩
        refine ⟨_, rfl, _, rfl, b, nums, n, rfl, hN, hlen, fun H1 s1 => ⟨_, rfl, ?_⟩⟩
        cases hall : ST.allLt n nums with
        | false => exact iteT (one H1 (-1) s1 (ST.ans_ofRowW (.inr hall)))
        | true =>
          refine iteF ?_
          refine ⟨_, rfl, b, _, rfl, .inl (s1.seq hN), _, rfl, _, _, rfl, rfl, rfl, _, rfl, ?_⟩
          rw [nVs_len]
          refine ite2 (fun e => ?_) (fun e => ?_)
          · have hne : nums.length + 2 ≠ n := fun z => by
              have : V.int ((nums.length : Nat) : Int) = V.int ((n : Int) - 2) := congrArg V.int (by omega)
              have e' : (!decide (V.int ((nums.length : Nat) : Int) = V.int ((n : Int) - 2))) = true := e
              rw [decide_eq_true this] at e'
              cases e'
            exact one H1 (-3) s1 (ST.ans_ofRowN hn hall hne)
          · have heq : nums.length + 2 = n := by
              by_cases z : V.int ((nums.length : Nat) : Int) = V.int ((n : Int) - 2)
              · injection z with z; omega
              · exfalso
                refine e ?_
                show (!decide (V.int ((nums.length : Nat) : Int) = V.int ((n : Int) - 2))) = true
                rw [decide_eq_false z]; rfl
            refine ⟨_, rfl, _, _, rfl, rfl, (by show 1 ≤ sizeLine; decide), fun o no1 => ?_⟩
            have no : H o = none := s1.free no1
            have s2 : Same H1 (upd H1 o (.lst [V.int ((n : Int) - 1)])) := same_upd no1
            refine ⟨_, rfl, _, rfl, b, nums, n, rfl, (s1.trans s2).seq hN, hn.2, heq, fun H3 pl s3 npl hpl => ?_⟩
            obtain ⟨as, hS, hP⟩ := hpl
            have eo3 := s3 _ _ (upd_same (H := H1) (a := o) (o := .lst [V.int ((n : Int) - 1)]))
            have hplo : pl ≠ o := fun e0 => by rw [e0, upd_same] at npl; cases npl
            have npl1 : H1 pl = none := s2.free npl
            have hlW : (Sq57.inOrder (ST.treeRow (List.range n) nums)).length = nums.length + 1 := by rw [inOrder_len, treeRow_len]
            refine ⟨pl, rfl, ⟨_, hS⟩, ?_⟩
            -- pl's list and its ways stand while o grows
            have hSpl : H3 pl = some (.lst (as.map V.ref)) ∨ True := .inr trivial
            refine for_list (K := K) (a := pl) (xs := as.map V.ref) (fun i σ H4 => ∃ (y3 y4 : Option V), σ = [some (.int (n : Int)), some (.ref b), some (.ref o), y3, y4] ∧ (∀ x ob, H3 x = some ob → x ≠ o → H4 x = some ob) ∧
              H4 o = some (.lst (V.int ((n : Int) - 1) :: nVs (flat2 ((Sq57.inOrder (ST.treeRow (List.range n) nums)).take i))))) ⟨none, none, rfl, fun x ob hx _ => hx, ?_⟩ (fun i σ H4 _ h => ?_) (fun i v σ H4 hv h => ?_) (fun σ H4 h => ?_)
            · rw [eo3]; rfl
            · obtain ⟨y3, y4, rfl, hk, eo⟩ := h
              rcases hS with (z | ⟨ob, z⟩) | z
              · exact .inl (.inl (hk _ _ z hplo))
              · exact .inl (.inr ⟨ob, hk _ _ z hplo⟩)
              · exact .inr z
            · obtain ⟨y3, y4, rfl, hk, eo⟩ := h
              obtain ⟨t, u, ht, rfl, hu, hU⟩ := ways_get hP hv
              have hto : t ≠ o := ne_of (show H3 t = some _ from hU) eo3 (by intro z; cases z)
              have hU4 : WayAt H4 t u := hk _ _ hU hto
              have hil : i < (Sq57.inOrder (ST.treeRow (List.range n) nums)).length := (List.getElem?_eq_some_iff.mp hu).1
              have hfl : (nVs (flat2 ((Sq57.inOrder (ST.treeRow (List.range n) nums)).take i))).length ≤ 100 := by
                rw [nVs_len, flat2_len, List.length_take]; omega
              refine ⟨t, _, rfl, SqT.of hU4, rfl, _, _, rfl, _, _, rfl, rfl, ?_⟩
              refine ⟨_, rfl, .inl ⟨rfl, _, SqL.of eo⟩, _, rfl, o, _, _, rfl, rfl, eo, (by rw [List.length_cons]; exact small (by omega)), ?_⟩
              refine ⟨_, rfl, .inl ⟨rfl, _, SqL.of upd_same⟩, _, rfl, o, _, _, rfl, rfl, upd_same, (by rw [List.length_append, List.length_cons]; exact small (by simp; omega)), ?_⟩
              refine ⟨_, _, rfl, fun x ob hx hxo => ?_, ?_⟩
              · rw [upd_ne hxo, upd_ne hxo]; exact hk x ob hx hxo
              · rw [upd_same, take_more hu, flat2_snoc, nVs_app]
                simp [nVs]
            · obtain ⟨y3, y4, rfl, hk, eo⟩ := h
              have hfull : (Sq57.inOrder (ST.treeRow (List.range n) nums)).take (as.map V.ref).length = Sq57.inOrder (ST.treeRow (List.range n) nums) := List.take_of_length_le (by rw [ways_len hP]; exact Nat.le_refl _)
              rw [hfull] at eo
              refine ⟨_, rfl, q H4 o (fun x ob hx => ?_) no ?_⟩
              · exact hk x ob (s3 _ _ (s2 _ _ (s1 _ _ hx))) (ne_of_none hx no)
              · rw [eo, ST.ans_ofRow hn hall heq]
                show some (HO.lst (V.int ((n : Int) - 1) :: nVs (flat2 (Sq57.inOrder (ST.treeRow (List.range n) nums))))) = some (HO.lst (V.int ((n : Int) - 1) :: iVs (ST.inL (flat2 (Sq57.inOrder (ST.treeRow (List.range n) nums))))))
                rw [inL_V]
      · rw [decide_eq_false c2]
        refine iteT ?_
        exact wr (by omega)
    · have d1 : ¬ (2 : Int) ≤ (n : Int) := fun z => c1 (decide_eq_true z)
      refine ⟨_, rfl, iteT ?_⟩
      exact wr (by omega)
end
end
end SP
end
section
set_option Elab.async false
set_option linter.all false
set_option maxRecDepth 100000
set_option maxHeartbeats 4000000
namespace ST
theorem TT_le {β : Type} [DecidableEq β] : ∀ (r : List Way) (k : Nat) (s : Nat → β), TT k r s ≤ 2 ^ r.length
  | [], k, _ => by simp only [TT]; split <;> simp
  | w :: r, k, s => by
    simp only [TT, List.length_cons]
    have h1 := TT_le r k s
    have h2 := TT_le r (k - 1) (mg s w.1 w.2)
    rw [Nat.pow_succ]
    split <;> omega
theorem manyWith_le (n : Nat) (ws : List Way) (nums : List Nat) (b : Nat) : manyWith n ws nums b ≤ 2 ^ ws.length := by
  unfold manyWith
  split
  · exact Nat.zero_le _
  · refine Nat.le_trans (TT_le _ _ _) (Nat.pow_le_pow_right (by decide) ?_)
    rw [List.length_drop]
    omega
theorem many_le {g : Sq57.Graph} (h : SOk g) : many g ≤ 1048576 := by
  have h1 := manyWith_le g.n g.ways [] 0
  have h2 : 2 ^ g.ways.length ≤ 2 ^ 20 := Nat.pow_le_pow_right (by decide) h.few
  unfold many
  omega
theorem treeGo_len (n : Nat) (ws : List Way) : ∀ (is fnd : List Nat) (left : Nat), (treeGo n ws is fnd left).length ≤ fnd.length + is.length
  | [], _, _ => Nat.le_refl _
  | i :: is, fnd, left => by
    simp only [treeGo, List.length_cons]
    split
    · have := treeGo_len n ws is (fnd ++ [i]) left
      simp at this
      omega
    · have := treeGo_len n ws is fnd (left - manyWith n ws (fnd ++ [i]) (i + 1))
      omega
theorem treeOf_len (n : Nat) (ws : List Way) (k : Nat) : (treeOf n ws k).length ≤ ws.length := by
  have := treeGo_len n ws (List.range ws.length) [] k
  unfold treeOf
  simpa using this
end ST
namespace SP
open PySem PySem.Spec PyProof.Rows L2
/-! ### the object -/
def gF (n : Nat) (wa : Addr) : List (Str × V) := [("places", .int (n : Int)), ("ways", .ref wa)]
theorem lk_here {k : Str} {v : V} {r : List (Str × V)} : List.lookup k ((k, v) :: r) = some v := by
  have e : (k == k) = true := beq_self_eq_true k
  simp only [List.lookup, e]
theorem lk_past {k g : Str} {v : V} {r : List (Str × V)} (h : (k == g) = false) : List.lookup k ((g, v) :: r) = List.lookup k r := by
  simp only [List.lookup, h]
theorem put_here {f : Str} {v x : V} {r : List (Str × V)} : putF f v ((f, x) :: r) = (f, v) :: r := if_pos rfl
theorem put_past {f g : Str} {v x : V} {r : List (Str × V)} (h : ¬ g = f) : putF f v ((g, x) :: r) = (g, x) :: putF f v r := if_neg h
theorem gF_places (n : Nat) (wa : Addr) : (gF n wa).lookup ("places" : Str) = some (.int (n : Int)) := lk_here
theorem gF_ways (n : Nat) (wa : Addr) : (gF n wa).lookup ("ways" : Str) = some (.ref wa) := (lk_past (by decide +kernel)).trans lk_here
theorem gF_no {m : Str} (h1 : (m == ("places" : Str)) = false) (h2 : (m == ("ways" : Str)) = false) (n : Nat) (wa : Addr) : (gF n wa).lookup m = none := (lk_past h1).trans ((lk_past h2).trans rfl)
theorem gF_putP (n m : Nat) (wa : Addr) : putF "places" (.int (m : Int)) (gF n wa) = gF m wa := put_here
theorem gF_putW (n : Nat) (wa wb : Addr) : putF "ways" (.ref wb) (gF n wa) = gF n wb := (put_past (by decide +kernel)).trans (congrArg _ put_here)
theorem gF_new (wa : Addr) : putF "ways" (.ref wa) (putF "places" (.int 1) []) = gF 1 wa := (put_past (by decide +kernel)).trans rfl
def GraphAt (C : Addr) (N : Addr → Prop) (H : Hp) (a : Addr) (g : Sq57.Graph) : Prop := ∃ dx wa, N wa ∧ H a = some (.ins C dx (gF g.n wa)) ∧ OwnWays H wa g.ways
theorem GraphAt.same {C : Addr} {N : Addr → Prop} {H H' : Hp} {a : Addr} {g : Sq57.Graph} (s : Same H H') (h : GraphAt C N H a g) : GraphAt C N H' a g := by
  obtain ⟨dx, wa, h0, h1, h2⟩ := h
  exact ⟨dx, wa, h0, s _ _ h1, h2.same s⟩
structure Txt (K : PySem.W.Frag) (C : Addr) : Prop where
  cl : Cls K C
  nP : NoAttr K C "places"
  nW : NoAttr K C "ways"
/-- the ways stand while the object is changed -/
theorem ways_but {C : Addr} {H : Hp} {a wa dx : Addr} {fs : List (Str × V)} {o : HO} {ws : List ST.Way} (ha : H a = some (.ins C dx fs)) (h : OwnWays H wa ws) : OwnWays (upd H a o) wa ws := by
  obtain ⟨as, h1, h2⟩ := h
  refine ⟨as, ?_, Paired.mapP h2 fun b v hb => ?_⟩
  · rw [upd_ne (ne_of h1 ha (by intro z; cases z))]; exact h1
  · show (upd H a o) b = _
    rw [upd_ne (ne_of (show H b = some _ from hb) ha (by intro z; cases z))]
    exact hb
section
variable {P : Program} {w : World} {K : PySem.W.Frag} {mg : Str → Option Value} {base : Heap} {C : Addr}
/-! ### __init__ -/
abbrev sInit : Stmt := inClass (topS 41) 0
theorem scInit : FnScope ["self"] ["self"] (defScope sInit) := ⟨rfl, rfl, rfl, by decide +kernel, rfl, by decide +kernel, by decide +kernel⟩
def spInit (K : PySem.W.Frag) (C : Addr) : Sp := fun vs H Q _ => ∃ (p dx : Addr) (N : Addr → Prop), vs = [.ref p] ∧ (∀ z, H z = none → N z) ∧ H p = some (.ins C dx []) ∧ ∀ H' : Hp, GraphAt C N H' p Sq57.fresh → (∀ b o, H b = some o → b ≠ p → H' b = some o) → Q .non H'
theorem ok_init {f : Addr} {fd : FuncData} {k : Nat} (F : Fun K "__init__" "Graph.__init__" sInit f fd) (T : Txt K C) : FnOk P w K mg base CX0 (k + 1) f fd ["self"] (spInit K C) := by
  refine F.ok scInit (fun vs H Q E h => ?_) (fun cdv A outer s H vs Q E hr h => ?_)
  · obtain ⟨p, dx, N, rfl, _⟩ := h
    rfl
  · obtain ⟨p, dx, N, rfl, hNN, hp, q⟩ := h
    refine ⟨_, pss_cons (ps_fld (pv 0) pe_int rfl) (pss_one (ps_fld (pv 0) (pe_lst pa_nil) rfl)), ?_⟩
    refine ⟨_, rfl, p, C, dx, [], rfl, hp, T.cl, T.nP, (by show 0 < 1000; decide), ?_⟩
    refine ⟨Nat.zero_le _, fun wa nwa => ?_⟩
    have hpw : p ≠ wa := fun e => by rw [e, upd_same] at nwa; cases nwa
    refine ⟨_, rfl, p, C, dx, _, rfl, (by rw [upd_ne hpw, upd_same]), T.cl, T.nW, (by show 1 < 1000; decide), ?_⟩
    have nw : H wa = none := by rw [upd_ne (Ne.symm hpw)] at nwa; exact nwa
    refine q _ ⟨dx, wa, hNN wa nw, ?_, [], ?_, .nil⟩ fun b o hb hne => ?_
    · rw [upd_same, gF_new]; rfl
    · rw [upd_ne (Ne.symm hpw), upd_same]
      rfl
    · rw [upd_ne hne, upd_ne (ne_of_none hb nw), upd_ne hne]; exact hb
/-! ### begin(self, n, numbers) -/
abbrev sBegin : Stmt := inClass (topS 41) 1
theorem scBegin : FnScope ["self", "n", "numbers", "ways"] ["self", "n", "numbers"] (defScope sBegin) := ⟨rfl, rfl, rfl, by decide +kernel, rfl, by decide +kernel, by decide +kernel⟩
def spBegin (K : PySem.W.Frag) (C : Addr) : Sp := fun vs H Q _ => ∃ (a b : Addr) (g : Sq57.Graph) (nums : List Nat) (n : Nat) (N : Addr → Prop), vs = [.ref a, .int (n : Int), .ref b] ∧ (∀ z, H z = none → N z) ∧ GraphAt C N H a g ∧ SqL K H b (nVs nums) ∧ nums.length ≤ 20000 ∧
  ∀ (H' : Hp) (p : Addr), (∀ x o, H x = some o → x ≠ a → H' x = some o) → GraphAt C N H' a (ST.nxt g (.begin_ n nums)) → H p = none → H' p = some (.lst (iVs (ST.ans g (.begin_ n nums)))) → Q (.ref p) H'
variable {cP cQ cS : Addr} {hP hQ hS : FuncData}
theorem ok_begin {f : Addr} {fd : FuncData} (F : Fun K "begin" "Graph.begin" sBegin f fd) (T : Txt K C) (ml : mg "len" = none) (mr : mg "range" = none) (Ck : Chk K mg cP cQ cS hP hQ hS) (N : Cons mg) : FnOk P w K mg base CX0 2 f fd ["self", "n", "numbers"] (spBegin K C) := by
  have GP : FnOk P w K mg base CX0 1 cP hP ["numbers"] (spPairs K) := ok_pairs Ck.FP ml mr
  have GQ : FnOk P w K mg base CX0 1 cQ hQ ["numbers", "many"] (spPlaces K) := ok_places Ck.FQ Ck.mall
  obtain ⟨t1, n1⟩ := N.noneSuch
  obtain ⟨t2, n2⟩ := N.wrong
  obtain ⟨t4, n4⟩ := N.places
  obtain ⟨t5, n5⟩ := N.ways
  refine F.ok scBegin (fun vs H Q E h => ?_) (fun cdv A outer s H vs Q E hr h => ?_)
  · obtain ⟨a, b, g, nums, n, N', rfl, _⟩ := h
    rfl
  · obtain ⟨a, b, g, nums, n, N', rfl, hNN, hG, hN, hlen, q⟩ := h
    refine ⟨_, pss_cons (ps_if (pt_not (pt_chain op_le op_le pe_int (pv 1) (pe_glob rfl n4 (v := .int 9) ⟨_, rfl⟩))) (pss_one (ps_ret (pe_lst (pa_cons (pe_glob rfl n2 (v := .int (-1)) ⟨_, rfl⟩) pa_nil)))) pss_nil)
      (pss_cons (ps_if (pt_cmpR op_eq (pe_op op_mod (pe_callB call_len_seq (by rfl) ml PySem.boot_len (pa_cons (pv 2) pa_nil)) pe_int) pe_int (nomark _)) (pss_one (ps_ret (pe_lst (pa_cons (pe_glob rfl n1 (v := .int (-3)) ⟨_, rfl⟩) pa_nil)))) pss_nil)
      (pss_cons (ps_set (i := 3) scBegin.nd rfl (.inl rfl) (pe_call GP hr (by rfl) Ck.gP Ck.FP.kp Ck.bP .nil pass0 (pa_cons (pv 2) pa_nil)))
      (pss_cons (ps_if (PW.pt (pw_or (pt_cmpR op_gt (pe_callB call_len_seq (by rfl) ml PySem.boot_len (pa_cons (pv 3) pa_nil)) (pe_glob rfl n5 (v := .int 20) ⟨_, rfl⟩) (nomark _)) (pw_or1 (pt_not (pt_val (pe_call GQ hr (by rfl) Ck.gQ Ck.FQ.kp Ck.bQ .nil pass0 (pa_cons (pv 2) (pa_cons (pv 1) pa_nil))))))))
        (pss_one (ps_ret (pe_lst (pa_cons (pe_glob rfl n2 (v := .int (-1)) ⟨_, rfl⟩) pa_nil)))) pss_nil)
      (pss_cons (ps_fld (pv 0) (pv 1) rfl)
      (pss_cons (ps_fld (pv 0) (pv 3) rfl)
      (pss_one (ps_ret (pe_lst (pa_cons (pe_callB call_len_seq (by rfl) ml PySem.boot_len (pa_cons (pv 3) pa_nil)) pa_nil))))))))), ?_⟩
    have one : ∀ (H1 : Hp) (z : Int), Same H H1 → (ST.nxt g (.begin_ n nums) = g ∧ ST.ans g (.begin_ n nums) = [z]) → ([V.int z].length ≤ sizeLine ∧ ∀ p, H1 p = none → Q (.ref p) (upd H1 p (.lst [V.int z]))) := fun H1 z s1 e =>
      ⟨by show 1 ≤ sizeLine; decide, fun p np => q _ p (fun x o hx _ => same_new s1 (s1.free np) x o hx) (by rw [e.1]; exact hG.same (same_new s1 (s1.free np))) (s1.free np) (by rw [upd_same, e.2]; rfl)⟩
    have wr : ¬ (1 ≤ n ∧ n ≤ 9) → ([V.int (-1)].length ≤ sizeLine ∧ ∀ p, H p = none → Q (.ref p) (upd H p (.lst [V.int (-1)]))) := fun z => one H (-1) (Same.refl H) (ST.begin_wrong z)
    refine ⟨_, rfl, _, _, rfl, rfl, _, rfl, ?_⟩
    refine ite2 (fun c1 => ?_) (fun c1 => ?_)
    · have d1 : (1 : Int) ≤ (n : Int) := of_decide_eq_true c1
      refine ⟨_, _, rfl, rfl, _, rfl, ?_⟩
      by_cases c2 : (n : Int) ≤ 9
      · rw [decide_eq_true c2]
        refine iteF ?_
        have hn : 1 ≤ n ∧ n ≤ 9 := ⟨by omega, by omega⟩
        refine ⟨_, rfl, b, _, rfl, .inl hN, _, _, rfl, rfl, (by show (0 : Int) < 2; decide), rfl, _, rfl, ?_⟩
        rw [nVs_len]
        refine ite2 (fun e => ?_) (fun e => ?_)
        · have e1 : V.int (((nums.length : Nat) : Int) % 2) = V.int 1 := of_decide_eq_true e
          have e2 : nums.length % 2 = 1 := by injection e1 with e1; omega
          exact one H (-3) (Same.refl H) (ST.begin_odd hn e2)
        · have e2 : nums.length % 2 = 0 := by
            rcases Nat.mod_two_eq_zero_or_one nums.length with z | z
            · exact z
            · exact absurd (decide_eq_true (show V.int (((nums.length : Nat) : Int) % 2) = V.int 1 from congrArg V.int (by omega))) e
          refine ⟨_, rfl, b, nums, rfl, hN, hlen, e2, fun H1 wp s1 nwp hwp => ?_⟩
          obtain ⟨as, hS, hPd⟩ := id hwp
          have hl : (as.map V.ref).length = (ST.pairsL nums).length := ways_len hPd
          refine ⟨_, rfl, wp, _, rfl, .inl (SqL.of hS), _, _, rfl, rfl, _, rfl, ?_⟩
          rw [hl]
          refine ite2 (fun e3 => ?_) (fun e3 => ?_)
          · have d3 : 20 < (ST.pairsL nums).length := by have := of_decide_eq_true e3; omega
            exact iteT (one H1 (-1) s1 (ST.begin_bad hn e2 (.inl d3)))
          · have d3 : ¬ 20 < (ST.pairsL nums).length := fun z => e3 (decide_eq_true (by omega))
            refine ⟨_, rfl, _, rfl, b, nums, n, rfl, s1.seq hN, hlen, fun H2 s2 => ⟨_, rfl, ?_⟩⟩
            have s02 := s1.trans s2
            cases hall : ST.allLt n nums with
            | false => exact iteT (one H2 (-1) s02 (ST.begin_bad hn e2 (.inr hall)))
            | true =>
              refine iteF ?_
              obtain ⟨dx, wa, hNw, ha, hwa⟩ := hG.same s02
              refine ⟨_, rfl, _, rfl, a, C, dx, _, rfl, ha, T.cl, T.nP, (by show 2 < 1000; decide), ?_⟩
              refine ⟨_, rfl, _, rfl, a, C, dx, _, rfl, upd_same, T.cl, T.nW, (by rw [gF_putP]; show 2 < 1000; decide), ?_⟩
              rw [gF_putP, gF_putW]
              have hwp2 : OwnWays (upd (upd H2 a (.ins C dx (gF n wa))) a (.ins C dx (gF n wp))) wp (ST.pairsL nums) := by
                rw [upd_upd]
                exact ways_but ha (hwp.same s2)
              obtain ⟨bs, hS2, hP2⟩ := id hwp2
              refine ⟨_, rfl, wp, _, rfl, .inl (SqL.of hS2), (by show 1 ≤ sizeLine; decide), fun p np => ?_⟩
              have npa : p ≠ a := fun e => by rw [e, upd_same] at np; cases np
              have np2 : H2 p = none := by rw [upd_ne npa, upd_ne npa] at np; exact np
              have eb := ST.begin_good (g := g) hn e2 d3 hall
              refine q _ p (fun x o hx hxa => ?_) ?_ (s02.free np2) ?_
              · rw [upd_ne (ne_of_none (s02 _ _ hx) np2), upd_ne hxa, upd_ne hxa]; exact s02 _ _ hx
              · rw [eb.1]
                refine ⟨dx, wp, hNN wp nwp, ?_, hwp2.same (same_upd np)⟩
                rw [upd_ne (Ne.symm npa), upd_same]
              · rw [upd_same, eb.2, ways_len hP2]
                rfl
      · rw [decide_eq_false c2]
        refine iteT ?_
        exact wr (by omega)
    · have d1 : ¬ (1 : Int) ≤ (n : Int) := fun z => c1 (decide_eq_true z)
      refine ⟨_, rfl, iteT ?_⟩
      exact wr (by omega)
end
end SP
end
section
set_option Elab.async false
set_option linter.all false
set_option maxRecDepth 100000
set_option maxHeartbeats 4000000
namespace SP
open PySem PySem.Spec PyProof.Rows L2
section
variable {P : Program} {w : World} {K : PySem.W.Frag} {mg : Str → Option Value} {base : Heap} {C : Addr}
/-- what a reading call promises -/
def spTell (K : PySem.W.Frag) (C : Addr) (more : List V → Hp → Sq57.Call → Prop) : Sp := fun vs H Q _ => ∃ (a : Addr) (g : Sq57.Graph) (rest : List V) (c : Sq57.Call) (N : Addr → Prop), vs = .ref a :: rest ∧ GraphAt C N H a g ∧ ST.SOk g ∧ more rest H c ∧
  ∀ (H' : Hp) (p : Addr), Same H H' → H p = none → H' p = some (.lst (iVs (ST.ans g c))) → Q (.ref p) H'
/-! ### many(self) -/
abbrev sMany : Stmt := inClass (topS 41) 2
theorem scMany : FnScope ["self"] ["self"] (defScope sMany) := ⟨rfl, rfl, rfl, by decide +kernel, rfl, by decide +kernel, by decide +kernel⟩
def spMany (K : PySem.W.Frag) (C : Addr) : Sp := fun vs H Q _ => ∃ (a : Addr) (g : Sq57.Graph) (N : Addr → Prop), vs = [.ref a] ∧ GraphAt C N H a g ∧ ST.SOk g ∧ ∀ H' : Hp, Same H H' → Q (.int ((ST.many g : Nat) : Int)) H'
theorem ok_many {f fT : Addr} {fd dT : FuncData} (F : Fun K "many" "Graph.many" sMany f fd) (T : Txt K C) (FT : Fun K "many_trees" "many_trees" sManyTrees fT dT) (bT : Binds K dT ["places", "ways"] []) (gT : mg "many_trees" = some (.ref fT))
    (GT : FnOk P w K mg base CX0 6 fT dT ["places", "ways"] (spManyTrees K)) : FnOk P w K mg base CX0 7 f fd ["self"] (spMany K C) := by
  refine F.ok scMany (fun vs H Q E h => ?_) (fun cdv A outer s H vs Q E hr h => ?_)
  · obtain ⟨a, g, N', rfl, _⟩ := h
    rfl
  · obtain ⟨a, g, N', rfl, ⟨dx, wa, hNw, ha, hwa0⟩, hok, q⟩ := h
    have hwa : IsWays K H wa g.ways := hwa0.is
    refine ⟨_, pss_one (ps_ret (pe_call GT hr (by rfl) gT FT.kp bT .nil pass0 (pa_cons (pe_fld (pv 0) rfl) (pa_cons (pe_fld (pv 0) rfl) pa_nil)))), ?_⟩
    refine ⟨_, rfl, a, C, dx, _, _, rfl, ha, T.cl, T.nP, gF_places _ _, _, rfl, a, C, dx, _, _, rfl, ha, T.cl, T.nW, gF_ways _ _, ?_⟩
    have := hok.few
    exact ⟨wa, g.ways, g.n, rfl, hwa, hok.lo, hok.hi, hok.ins, by omega, q⟩
/-- the method many, as it is called -/
structure MM (P : Program) (w : World) (K : PySem.W.Frag) (mg : Str → Option Value) (base : Heap) (C fM : Addr) (dM : FuncData) : Prop where
  m : Meth K C "many" fM
  b : Binds K dM ["self"] []
  G : FnOk P w K mg base CX0 7 fM dM ["self"] (spMany K C)
/-- functions of trees.py, as they are called -/
structure Trs (P : Program) (w : World) (K : PySem.W.Frag) (mg : Str → Option Value) (base : Heap) (fX fT fN fI fL : Addr) (dX dT dN dI dL : FuncData) : Prop where
  kX : PySem.W.keepIn K (.ref fX) = true
  bX : Binds K dX ["places", "ways", "numbers", "begin"] []
  gX : mg "many_with" = some (.ref fX)
  GX : FnOk P w K mg base CX0 5 fX dX ["places", "ways", "numbers", "begin"] (spManyWith K)
  kT : PySem.W.keepIn K (.ref fT) = true
  bT : Binds K dT ["places", "ways", "k"] []
  gT : mg "tree_of" = some (.ref fT)
  GT : FnOk P w K mg base CX0 6 fT dT ["places", "ways", "k"] (spTreeOf K)
  kN : PySem.W.keepIn K (.ref fN) = true
  bN : Binds K dN ["places", "ways", "tree"] []
  gN : mg "number_of" = some (.ref fN)
  GN : FnOk P w K mg base CX0 6 fN dN ["places", "ways", "tree"] (spNumberOf K)
  kI : PySem.W.keepIn K (.ref fI) = true
  bI : Binds K dI ["places", "ways", "numbers"] []
  gI : mg "is_tree" = some (.ref fI)
  GI : FnOk P w K mg base CX0 4 fI dI ["places", "ways", "numbers"] (spIsTree K)
  kL : PySem.W.keepIn K (.ref fL) = true
  bL : Binds K dL ["top", "under"] []
  gL : mg "lowest" = some (.ref fL)
  GL : FnOk P w K mg base CX0 2 fL dL ["top", "under"] spLowest
  ml : mg "len" = none
  mr : mg "range" = none
variable {fM fX fT fN fI fL : Addr} {dM dX dT dN dI dL : FuncData}
/-! ### told_count(self) -/
abbrev sToldCount : Stmt := inClass (topS 41) 3
theorem scToldCount : FnScope ["self"] ["self"] (defScope sToldCount) := ⟨rfl, rfl, rfl, by decide +kernel, rfl, by decide +kernel, by decide +kernel⟩
def moCount : List V → Hp → Sq57.Call → Prop := fun r _ c => r = [] ∧ c = .count
theorem ok_toldCount {f : Addr} {fd : FuncData} (F : Fun K "told_count" "Graph.told_count" sToldCount f fd) (T : Txt K C) (M : MM P w K mg base C fM dM) : FnOk P w K mg base CX0 8 f fd ["self"] (spTell K C moCount) := by
  refine F.ok scToldCount (fun vs H Q E h => ?_) (fun cdv A outer s H vs Q E hr h => ?_)
  · obtain ⟨a, g, rest, c, N', rfl, _, _, ⟨rfl, rfl⟩, _⟩ := h
    rfl
  · obtain ⟨a, g, rest, c, N', rfl, hG, hok, ⟨rfl, rfl⟩, q⟩ := h
    refine ⟨_, pss_one (ps_ret (pe_lst (pa_cons (pe_meth0 (pv 0) T.cl M.m M.G hr M.b .nil pass0) pa_nil))), ?_⟩
    obtain ⟨dx, wa, hNw, ha, hwa0⟩ := id hG
    have hwa : IsWays K H wa g.ways := hwa0.is
    refine ⟨_, rfl, a, dx, _, rfl, ha, gF_no (by decide +kernel) (by decide +kernel) _ _, a, g, _, rfl, hG, hok, fun H1 s1 => ⟨by show 1 ≤ sizeLine; decide, fun p np => ?_⟩⟩
    exact q _ p (same_new s1 (s1.free np)) (s1.free np) (by rw [upd_same, ST.ans_count hok]; rfl)
/-! ### told_make(self, k) -/
abbrev sToldMake : Stmt := inClass (topS 41) 4
theorem scToldMake : FnScope ["self", "k", "many"] ["self", "k"] (defScope sToldMake) := ⟨rfl, rfl, rfl, by decide +kernel, rfl, by decide +kernel, by decide +kernel⟩
def moMake : List V → Hp → Sq57.Call → Prop := fun r _ c => ∃ k : Nat, r = [.int (k : Int)] ∧ c = .make k
theorem ok_toldMake {f : Addr} {fd : FuncData} (F : Fun K "told_make" "Graph.told_make" sToldMake f fd) (T : Txt K C) (M : MM P w K mg base C fM dM) (R : Trs P w K mg base fX fT fN fI fL dX dT dN dI dL) (N : Cons mg) : FnOk P w K mg base CX0 8 f fd ["self", "k"] (spTell K C moMake) := by
  obtain ⟨t1, n1⟩ := N.noneSuch
  refine F.ok scToldMake (fun vs H Q E h => ?_) (fun cdv A outer s H vs Q E hr h => ?_)
  · obtain ⟨a, g, rest, c, N', rfl, _, _, ⟨k, rfl, rfl⟩, _⟩ := h
    rfl
  · obtain ⟨a, g, rest, c, N', rfl, hG, hok, ⟨k, rfl, rfl⟩, q⟩ := h
    refine ⟨_, pss_cons (ps_set (i := 2) scToldMake.nd rfl (.inl rfl) (pe_meth0 (pv 0) T.cl M.m M.G hr M.b .nil pass0))
      (pss_cons (ps_if (pt_cmpR op_ge (pv 1) (pv 2) (nomark _)) (pss_one (ps_ret (pe_lst (pa_cons (pe_glob rfl n1 (v := .int (-3)) ⟨_, rfl⟩) pa_nil)))) pss_nil)
      (pss_one (ps_ret (pe_op op_cat (pe_lst (pa_cons (pv 2) pa_nil)) (pe_call R.GT (hr.mono (by decide)) (by rfl) R.gT R.kT R.bT .nil pass0 (pa_cons (pe_fld (pv 0) rfl) (pa_cons (pe_fld (pv 0) rfl) (pa_cons (pv 1) pa_nil)))))))), ?_⟩
    obtain ⟨dx, wa, hNw, ha, hwa0⟩ := id hG
    have hwa : IsWays K H wa g.ways := hwa0.is
    refine ⟨_, rfl, a, dx, _, rfl, ha, gF_no (by decide +kernel) (by decide +kernel) _ _, a, g, _, rfl, hG, hok, fun H1 s1 => ?_⟩
    refine ⟨_, rfl, _, rfl, _, _, rfl, rfl, _, rfl, ite2 (fun e => ?_) (fun e => ?_)⟩
    · have e' : ¬ k < ST.many g := by have := of_decide_eq_true e; omega
      exact ⟨by show 1 ≤ sizeLine; decide, fun p np => q _ p (same_new s1 (s1.free np)) (s1.free np) (by rw [upd_same, ST.ans_makeN hok e']; rfl)⟩
    · have e' : k < ST.many g := by
        by_cases z : k < ST.many g
        · exact z
        · exact absurd (decide_eq_true (by omega)) e
      refine ⟨_, rfl, by show 1 ≤ sizeLine; decide, fun c nc => ?_⟩
      have s2 : Same H1 (upd H1 c (.lst [V.int ((ST.many g : Nat) : Int)])) := same_upd nc
      have s02 := s1.trans s2
      have hf := hok.few
      have htl := ST.treeOf_len g.n g.ways k
      refine ⟨_, rfl, a, C, dx, _, _, rfl, s02 _ _ ha, T.cl, T.nP, gF_places _ _, _, rfl, a, C, dx, _, _, rfl, s02 _ _ ha, T.cl, T.nW, gF_ways _ _, _, rfl, wa, g.ways, g.n, k, rfl, hwa.same s02, hok.lo, hok.hi, hok.ins, by omega, fun H3 p3 s3 np3 hp3 => ?_⟩
      refine cat_ok (s3 _ _ upd_same) hp3 (by rw [nVs_len]; show 1 + _ ≤ _; omega) fun p4 np4 => ?_
      have s03 := s02.trans s3
      refine q _ p4 (same_new s03 (s03.free np4)) (s03.free np4) ?_
      rw [upd_same, ST.ans_make hok e']
      show _ = some (HO.lst (V.int ((ST.many g : Nat) : Int) :: iVs (ST.inL (ST.treeOf g.n g.ways k))))
      rw [inL_V]
      rfl
/-! ### told_number(self, tree) -/
abbrev sToldNumber : Stmt := inClass (topS 41) 5
theorem scToldNumber : FnScope ["self", "tree"] ["self", "tree"] (defScope sToldNumber) := ⟨rfl, rfl, rfl, by decide +kernel, rfl, by decide +kernel, by decide +kernel⟩
def moNumber (K : PySem.W.Frag) : List V → Hp → Sq57.Call → Prop := fun r H c => ∃ (b : Addr) (tr : List Nat), r = [.ref b] ∧ SqL K H b (nVs tr) ∧ tr.length ≤ 20000 ∧ c = .number tr
theorem ok_toldNumber {f : Addr} {fd : FuncData} (F : Fun K "told_number" "Graph.told_number" sToldNumber f fd) (T : Txt K C) (R : Trs P w K mg base fX fT fN fI fL dX dT dN dI dL) (N : Cons mg) : FnOk P w K mg base CX0 7 f fd ["self", "tree"] (spTell K C (moNumber K)) := by
  obtain ⟨t1, n1⟩ := N.noneSuch
  refine F.ok scToldNumber (fun vs H Q E h => ?_) (fun cdv A outer s H vs Q E hr h => ?_)
  · obtain ⟨a, g, rest, c, N', rfl, _, _, ⟨b, tr, rfl, _⟩, _⟩ := h
    rfl
  · obtain ⟨a, g, rest, c, N', rfl, hG, hok, ⟨b, tr, rfl, hN, hl, rfl⟩, q⟩ := h
    refine ⟨_, pss_cons (ps_if (pt_not (pt_val (pe_call R.GI (hr.mono (by decide)) (by rfl) R.gI R.kI R.bI .nil pass0 (pa_cons (pe_fld (pv 0) rfl) (pa_cons (pe_fld (pv 0) rfl) (pa_cons (pv 1) pa_nil)))))) (pss_one (ps_ret (pe_lst (pa_cons (pe_glob rfl n1 (v := .int (-3)) ⟨_, rfl⟩) pa_nil)))) pss_nil)
      (pss_one (ps_ret (pe_lst (pa_cons (pe_call R.GN hr (by rfl) R.gN R.kN R.bN .nil pass0 (pa_cons (pe_fld (pv 0) rfl) (pa_cons (pe_fld (pv 0) rfl) (pa_cons (pv 1) pa_nil)))) pa_nil)))), ?_⟩
    obtain ⟨dx, wa, hNw, ha, hwa0⟩ := id hG
    have hwa : IsWays K H wa g.ways := hwa0.is
    have hf := hok.few
    refine ⟨_, rfl, a, C, dx, _, _, rfl, ha, T.cl, T.nP, gF_places _ _, _, rfl, a, C, dx, _, _, rfl, ha, T.cl, T.nW, gF_ways _ _, _, rfl, wa, b, g.ways, tr, g.n, rfl, hwa, hN, hl, hok.lo, hok.hi, hok.ins, by omega, fun H1 s1 => ⟨_, rfl, ?_⟩⟩
    cases ht : ST.isTreeB g.n g.ways tr with
    | false => exact iteT ⟨by show 1 ≤ sizeLine; decide, fun p np => q _ p (same_new s1 (s1.free np)) (s1.free np) (by rw [upd_same, ST.ans_numberN hok ht]; rfl)⟩
    | true =>
      refine iteF ?_
      refine ⟨_, rfl, a, C, dx, _, _, rfl, s1 _ _ ha, T.cl, T.nP, gF_places _ _, _, rfl, a, C, dx, _, _, rfl, s1 _ _ ha, T.cl, T.nW, gF_ways _ _, _, rfl, wa, b, g.ways, tr, g.n, rfl, hwa.same s1, s1.seq hN, hok.lo, hok.hi, hok.ins, by omega, fun H2 s2 => ⟨by show 1 ≤ sizeLine; decide, fun p np => ?_⟩⟩
      have s02 := s1.trans s2
      exact q _ p (same_new s02 (s02.free np)) (s02.free np) (by rw [upd_same, ST.ans_number hok ht]; rfl)
/-! ### told_next(self, tree) -/
abbrev sToldNext : Stmt := inClass (topS 41) 6
theorem scToldNext : FnScope ["self", "tree", "k"] ["self", "tree"] (defScope sToldNext) := ⟨rfl, rfl, rfl, by decide +kernel, rfl, by decide +kernel, by decide +kernel⟩
def moNext (K : PySem.W.Frag) : List V → Hp → Sq57.Call → Prop := fun r H c => ∃ (b : Addr) (tr : List Nat), r = [.ref b] ∧ SqL K H b (nVs tr) ∧ tr.length ≤ 20000 ∧ c = .next tr
theorem ok_toldNext {f : Addr} {fd : FuncData} (F : Fun K "told_next" "Graph.told_next" sToldNext f fd) (T : Txt K C) (M : MM P w K mg base C fM dM) (R : Trs P w K mg base fX fT fN fI fL dX dT dN dI dL) (N : Cons mg) : FnOk P w K mg base CX0 8 f fd ["self", "tree"] (spTell K C (moNext K)) := by
  obtain ⟨t1, n1⟩ := N.noneSuch
  obtain ⟨t2, n2⟩ := N.last
  refine F.ok scToldNext (fun vs H Q E h => ?_) (fun cdv A outer s H vs Q E hr h => ?_)
  · obtain ⟨a, g, rest, c, N', rfl, _, _, ⟨b, tr, rfl, _⟩, _⟩ := h
    rfl
  · obtain ⟨a, g, rest, c, N', rfl, hG, hok, ⟨b, tr, rfl, hN, hl, rfl⟩, q⟩ := h
    have hr6 : Room 6 _ := hr.mono (by decide)
    refine ⟨_, pss_cons (ps_if (pt_not (pt_val (pe_call R.GI (hr.mono (by decide)) (by rfl) R.gI R.kI R.bI .nil pass0 (pa_cons (pe_fld (pv 0) rfl) (pa_cons (pe_fld (pv 0) rfl) (pa_cons (pv 1) pa_nil)))))) (pss_one (ps_ret (pe_lst (pa_cons (pe_glob rfl n1 (v := .int (-3)) ⟨_, rfl⟩) pa_nil)))) pss_nil)
      (pss_cons (ps_set (i := 2) scToldNext.nd rfl (.inl rfl) (pe_op op_add (pe_call R.GN hr6 (by rfl) R.gN R.kN R.bN .nil pass0 (pa_cons (pe_fld (pv 0) rfl) (pa_cons (pe_fld (pv 0) rfl) (pa_cons (pv 1) pa_nil)))) pe_int))
      (pss_cons (ps_if (pt_cmpR op_eq (pv 2) (pe_meth0 (pv 0) T.cl M.m M.G hr M.b .nil pass0) (nomark _)) (pss_one (ps_ret (pe_lst (pa_cons (pe_glob rfl n2 (v := .int (-6)) ⟨_, rfl⟩) pa_nil)))) pss_nil)
      (pss_one (ps_ret (pe_op op_cat (pe_lst (pa_cons (pv 2) pa_nil)) (pe_call R.GT hr6 (by rfl) R.gT R.kT R.bT .nil pass0 (pa_cons (pe_fld (pv 0) rfl) (pa_cons (pe_fld (pv 0) rfl) (pa_cons (pv 2) pa_nil))))))))), ?_⟩
    obtain ⟨dx, wa, hNw, ha, hwa0⟩ := id hG
    have hwa : IsWays K H wa g.ways := hwa0.is
    have hf := hok.few
    refine ⟨_, rfl, a, C, dx, _, _, rfl, ha, T.cl, T.nP, gF_places _ _, _, rfl, a, C, dx, _, _, rfl, ha, T.cl, T.nW, gF_ways _ _, _, rfl, wa, b, g.ways, tr, g.n, rfl, hwa, hN, hl, hok.lo, hok.hi, hok.ins, by omega, fun H1 s1 => ⟨_, rfl, ?_⟩⟩
    cases ht : ST.isTreeB g.n g.ways tr with
    | false => exact iteT ⟨by show 1 ≤ sizeLine; decide, fun p np => q _ p (same_new s1 (s1.free np)) (s1.free np) (by rw [upd_same, ST.ans_nextN hok ht]; rfl)⟩
    | true =>
      refine iteF ?_
      refine ⟨_, rfl, a, C, dx, _, _, rfl, s1 _ _ ha, T.cl, T.nP, gF_places _ _, _, rfl, a, C, dx, _, _, rfl, s1 _ _ ha, T.cl, T.nW, gF_ways _ _, _, rfl, wa, b, g.ways, tr, g.n, rfl, hwa.same s1, s1.seq hN, hok.lo, hok.hi, hok.ins, by omega, fun H2 s2 => ?_⟩
      have s02 := s1.trans s2
      refine ⟨_, _, rfl, rfl, ?_⟩
      have ek : ((ST.numberOf g.n g.ways tr : Nat) : Int) + 1 = ((ST.numberOf g.n g.ways tr + 1 : Nat) : Int) := by omega
      refine ⟨_, rfl, _, rfl, a, dx, _, rfl, s02 _ _ ha, gF_no (by decide +kernel) (by decide +kernel) _ _, a, g, _, rfl, hG.same s02, hok, fun H3 s3 => ?_⟩
      have s03 := s02.trans s3
      refine ⟨rfl, _, rfl, ite2 (fun e => ?_) (fun e => ?_)⟩
      · have e1 : V.int (((ST.numberOf g.n g.ways tr : Nat) : Int) + 1) = V.int ((ST.many g : Nat) : Int) := of_decide_eq_true e
        have e2 : ST.numberOf g.n g.ways tr + 1 = ST.many g := by injection e1 with e1; omega
        exact ⟨by show 1 ≤ sizeLine; decide, fun p np => q _ p (same_new s03 (s03.free np)) (s03.free np) (by rw [upd_same, ST.ans_nextL hok ht e2]; rfl)⟩
      · have e2 : ST.numberOf g.n g.ways tr + 1 ≠ ST.many g := fun z => e (decide_eq_true (show V.int (((ST.numberOf g.n g.ways tr : Nat) : Int) + 1) = V.int ((ST.many g : Nat) : Int) from congrArg V.int (by omega)))
        refine ⟨_, rfl, by show 1 ≤ sizeLine; decide, fun c nc => ?_⟩
        have s4 : Same H3 (upd H3 c (.lst [V.int (((ST.numberOf g.n g.ways tr : Nat) : Int) + 1)])) := same_upd nc
        have s04 := s03.trans s4
        have htl := ST.treeOf_len g.n g.ways (ST.numberOf g.n g.ways tr + 1)
        refine ⟨_, rfl, a, C, dx, _, _, rfl, s04 _ _ ha, T.cl, T.nP, gF_places _ _, _, rfl, a, C, dx, _, _, rfl, s04 _ _ ha, T.cl, T.nW, gF_ways _ _, _, rfl, wa, g.ways, g.n, ST.numberOf g.n g.ways tr + 1, (by rw [← ek]; rfl), hwa.same s04, hok.lo, hok.hi, hok.ins, by omega, fun H5 p5 s5 np5 hp5 => ?_⟩
        refine cat_ok (s5 _ _ upd_same) hp5 (by rw [nVs_len]; show 1 + _ ≤ _; omega) fun p6 np6 => ?_
        have s05 := s04.trans s5
        refine q _ p6 (same_new s05 (s05.free np6)) (s05.free np6) ?_
        rw [upd_same, ST.ans_next hok ht e2]
        show _ = some (HO.lst (V.int ((ST.numberOf g.n g.ways tr + 1 : Nat) : Int) :: iVs (ST.inL (ST.treeOf g.n g.ways (ST.numberOf g.n g.ways tr + 1)))))
        rw [inL_V, ← ek]
        rfl
/-! ### told_list(self) -/
abbrev sToldList : Stmt := inClass (topS 41) 7
theorem scToldList : FnScope ["self", "many", "found", "k"] ["self"] (defScope sToldList) := ⟨rfl, rfl, rfl, by decide +kernel, rfl, by decide +kernel, by decide +kernel⟩
def moList : List V → Hp → Sq57.Call → Prop := fun r _ c => r = [] ∧ c = .list
def allT (g : Sq57.Graph) (i : Nat) : List Nat := (List.range i).flatMap fun k => ST.treeOf g.n g.ways k
theorem allT_succ (g : Sq57.Graph) (i : Nat) : allT g (i + 1) = allT g i ++ ST.treeOf g.n g.ways i := by unfold allT; rw [List.range_succ, List.flatMap_append]; simp
theorem allT_len {g : Sq57.Graph} (h : ST.SOk g) : ∀ i, (allT g i).length ≤ 20 * i
  | 0 => by simp [allT]
  | i + 1 => by
    rw [allT_succ, List.length_append]
    have h1 := allT_len h i
    have h2 := ST.treeOf_len g.n g.ways i
    have h3 := h.few
    omega
theorem inL_flat (g : Sq57.Graph) (i : Nat) : ((List.range i).flatMap fun k => ST.inL (ST.treeOf g.n g.ways k)) = ST.inL (allT g i) := by
  unfold allT ST.inL
  rw [List.map_flatMap]
theorem ok_toldList {f : Addr} {fd : FuncData} (F : Fun K "told_list" "Graph.told_list" sToldList f fd) (T : Txt K C) (M : MM P w K mg base C fM dM) (R : Trs P w K mg base fX fT fN fI fL dX dT dN dI dL) (N : Cons mg) : FnOk P w K mg base CX0 8 f fd ["self"] (spTell K C moList) := by
  obtain ⟨t1, n1⟩ := N.tooMany
  obtain ⟨t2, n2⟩ := N.listed
  refine F.ok scToldList (fun vs H Q E h => ?_) (fun cdv A outer s H vs Q E hr h => ?_)
  · obtain ⟨a, g, rest, c, N', rfl, _, _, ⟨rfl, rfl⟩, _⟩ := h
    rfl
  · obtain ⟨a, g, rest, c, N', rfl, hG, hok, ⟨rfl, rfl⟩, q⟩ := h
    refine ⟨_, pss_cons (ps_set (i := 1) scToldList.nd rfl (.inl rfl) (pe_meth0 (pv 0) T.cl M.m M.G hr M.b .nil pass0))
      (pss_cons (ps_if (pt_cmpR op_gt (pv 1) (pe_glob rfl n2 (v := .int 100) ⟨_, rfl⟩) (nomark _)) (pss_one (ps_ret (pe_lst (pa_cons (pe_glob rfl n1 (v := .int (-5)) ⟨_, rfl⟩) pa_nil)))) pss_nil)
      (pss_cons (ps_set (i := 2) scToldList.nd rfl (.inl rfl) (pe_lst (pa_cons (pv 1) pa_nil)))
      (pss_cons (ps_for PassesOwn.never rfl (pi_range1 (by rfl) R.mr (pa_cons (pv 1) pa_nil)) (pg_name (i := 3) scToldList.nd rfl (.inl rfl))
        (pss_one (ps_expr (pe_bm PySem.F.plainAttrs_list PySem.F.slot_list_extend PySem.F.type_list_extend mt_extend (pv 2) (pa_cons (pe_call R.GT (hr.mono (by decide)) (by rfl) R.gT R.kT R.bT .nil pass0 (pa_cons (pe_fld (pv 0) rfl) (pa_cons (pe_fld (pv 0) rfl) (pa_cons (pv 3) pa_nil)))) pa_nil)))))
      (pss_one (ps_ret (pv 2)))))), ?_⟩
    obtain ⟨dx, wa, hNw, ha, hwa0⟩ := id hG
    have hwa : IsWays K H wa g.ways := hwa0.is
    refine ⟨_, rfl, a, dx, _, rfl, ha, gF_no (by decide +kernel) (by decide +kernel) _ _, a, g, _, rfl, hG, hok, fun H1 s1 => ?_⟩
    refine ⟨_, rfl, _, _, rfl, rfl, _, rfl, ite2 (fun e => ?_) (fun e => ?_)⟩
    · have e' : 100 < ST.many g := by have := of_decide_eq_true e; omega
      exact ⟨by show 1 ≤ sizeLine; decide, fun p np => q _ p (same_new s1 (s1.free np)) (s1.free np) (by rw [upd_same, ST.ans_listN hok e']; rfl)⟩
    · have e' : ¬ 100 < ST.many g := fun z => e (decide_eq_true (by omega))
      refine ⟨_, rfl, by show 1 ≤ sizeLine; decide, fun o no1 => ?_⟩
      have no : H o = none := s1.free no1
      have s2 : Same H1 (upd H1 o (.lst [V.int ((ST.many g : Nat) : Int)])) := same_upd no1
      have s02 := s1.trans s2
      refine ⟨_, rfl, _, rfl, by omega, by omega, ?_⟩
      have hf := hok.few
      refine for_range (lo := 0) (n := ((ST.many g : Nat) : Int).toNat) (fun i σ H3 => ∃ y3 : Option V, σ = [some (.ref a), some (.int ((ST.many g : Nat) : Int)), some (.ref o), y3] ∧ Same H H3 ∧ H3 o = some (.lst (V.int ((ST.many g : Nat) : Int) :: nVs (allT g i))))
        ⟨none, rfl, s02, upd_same⟩ (fun i σ H3 hi h => ?_) (fun σ H3 h => ?_)
      · obtain ⟨y3, rfl, sm, eo⟩ := h
        have ei : (0 : Int) + (i : Int) = (i : Int) := by omega
        rw [ei]
        have htl := ST.treeOf_len g.n g.ways i
        have hal := allT_len hok i
        refine ⟨_, rfl, .inl ⟨rfl, _, SqL.of eo⟩, _, rfl, a, C, dx, _, _, rfl, sm _ _ ha, T.cl, T.nP, gF_places _ _, _, rfl, a, C, dx, _, _, rfl, sm _ _ ha, T.cl, T.nW, gF_ways _ _, _, rfl, wa, g.ways, g.n, i, rfl, hwa.same sm, hok.lo, hok.hi, hok.ins, by omega, fun H4 p4 s4 np4 hp4 => ?_⟩
        have eo4 := s4 _ _ eo
        refine ⟨o, p4, _, _, rfl, rfl, eo4, hp4, ?_, ?_⟩
        · rw [nVs_len, List.length_cons, nVs_len]; exact smallE (by omega)
        · refine ⟨_, rfl, same_new (sm.trans s4) no, ?_⟩
          rw [upd_same, allT_succ, nVs_app]
          rfl
      · obtain ⟨y3, rfl, sm, eo⟩ := h
        have en : ((ST.many g : Nat) : Int).toNat = ST.many g := by omega
        rw [en] at eo
        refine ⟨_, rfl, q H3 o sm no ?_⟩
        rw [eo, ST.ans_list hok e', inL_flat]
        show _ = some (HO.lst (V.int ((ST.many g : Nat) : Int) :: iVs (ST.inL (allT g (ST.many g)))))
        rw [inL_V]
/-! ### told_share(self, way) -/
abbrev sToldShare : Stmt := inClass (topS 41) 8
theorem scToldShare : FnScope ["self", "way", "many", "having"] ["self", "way"] (defScope sToldShare) := ⟨rfl, rfl, rfl, by decide +kernel, rfl, by decide +kernel, by decide +kernel⟩
def moShare : List V → Hp → Sq57.Call → Prop := fun r _ c => ∃ k : Nat, r = [.int (k : Int)] ∧ c = .share k
theorem ok_toldShare {f : Addr} {fd : FuncData} (F : Fun K "told_share" "Graph.told_share" sToldShare f fd) (T : Txt K C) (M : MM P w K mg base C fM dM) (R : Trs P w K mg base fX fT fN fI fL dX dT dN dI dL) (N : Cons mg) : FnOk P w K mg base CX0 8 f fd ["self", "way"] (spTell K C moShare) := by
  obtain ⟨t1, n1⟩ := N.noWay
  obtain ⟨t2, n2⟩ := N.noTree
  refine F.ok scToldShare (fun vs H Q E h => ?_) (fun cdv A outer s H vs Q E hr h => ?_)
  · obtain ⟨a, g, rest, c, N', rfl, _, _, ⟨k, rfl, rfl⟩, _⟩ := h
    rfl
  · obtain ⟨a, g, rest, c, N', rfl, hG, hok, ⟨k, rfl, rfl⟩, q⟩ := h
    refine ⟨_, pss_cons (ps_if (pt_cmpR op_ge (pv 1) (pe_callB call_len_seq (by rfl) R.ml PySem.boot_len (pa_cons (pe_fld (pv 0) rfl) pa_nil)) (nomark _)) (pss_one (ps_ret (pe_lst (pa_cons (pe_glob rfl n1 (v := .int (-2)) ⟨_, rfl⟩) pa_nil)))) pss_nil)
      (pss_cons (ps_set (i := 2) scToldShare.nd rfl (.inl rfl) (pe_meth0 (pv 0) T.cl M.m M.G hr M.b .nil pass0))
      (pss_cons (ps_if (pt_cmpR op_eq (pv 2) pe_int (nomark _)) (pss_one (ps_ret (pe_lst (pa_cons (pe_glob rfl n2 (v := .int (-4)) ⟨_, rfl⟩) pa_nil)))) pss_nil)
      (pss_cons (ps_set (i := 3) scToldShare.nd rfl (.inl rfl) (pe_call R.GX (hr.mono (by decide)) (by rfl) R.gX R.kX R.bX .nil pass0 (pa_cons (pe_fld (pv 0) rfl) (pa_cons (pe_fld (pv 0) rfl) (pa_cons (pe_lst (pa_cons (pv 1) pa_nil)) (pa_cons pe_int pa_nil))))))
      (pss_one (ps_ret (pe_op op_cat (pe_lst (pa_cons (pv 3) pa_nil)) (pe_call R.GL (hr.mono (by decide)) (by rfl) R.gL R.kL R.bL .nil pass0 (pa_cons (pv 3) (pa_cons (pv 2) pa_nil))))))))), ?_⟩
    obtain ⟨dx, wa, hNw, ha, hwa0⟩ := id hG
    have hwa : IsWays K H wa g.ways := hwa0.is
    obtain ⟨as, hS, hPd⟩ := id hwa
    have hf := hok.few
    have hl : (as.map V.ref).length = g.ways.length := ways_len hPd
    refine ⟨_, rfl, _, rfl, a, C, dx, _, _, rfl, ha, T.cl, T.nW, gF_ways _ _, wa, _, rfl, .inl hS, _, _, rfl, rfl, _, rfl, ?_⟩
    rw [hl]
    refine ite2 (fun e => ?_) (fun e => ?_)
    · have e' : g.ways.length ≤ k := by have := of_decide_eq_true e; omega
      exact ⟨by show 1 ≤ sizeLine; decide, fun p np => q _ p (same_upd np) np (by rw [upd_same, ST.ans_shareW e']; rfl)⟩
    · have e' : ¬ g.ways.length ≤ k := fun z => e (decide_eq_true (by omega))
      refine ⟨_, rfl, a, dx, _, rfl, ha, gF_no (by decide +kernel) (by decide +kernel) _ _, a, g, _, rfl, hG, hok, fun H1 s1 => ?_⟩
      refine ⟨_, rfl, rfl, _, rfl, ite2 (fun e0 => ?_) (fun e0 => ?_)⟩
      · have e1 : V.int ((ST.many g : Nat) : Int) = V.int 0 := of_decide_eq_true e0
        have e2 : ST.many g = 0 := by injection e1 with e1; omega
        exact ⟨by show 1 ≤ sizeLine; decide, fun p np => q _ p (same_new s1 (s1.free np)) (s1.free np) (by rw [upd_same, ST.ans_shareT hok e' e2]; rfl)⟩
      · have e2 : ST.many g ≠ 0 := fun z => e0 (decide_eq_true (show V.int ((ST.many g : Nat) : Int) = V.int 0 from congrArg V.int (by omega)))
        refine ⟨_, rfl, a, C, dx, _, _, rfl, s1 _ _ ha, T.cl, T.nP, gF_places _ _, _, rfl, a, C, dx, _, _, rfl, s1 _ _ ha, T.cl, T.nW, gF_ways _ _, _, rfl, by show 1 ≤ sizeLine; decide, fun c nc => ?_⟩
        have s2 : Same H1 (upd H1 c (.lst [V.int (k : Int)])) := same_upd nc
        have s02 := s1.trans s2
        refine ⟨wa, c, g.ways, [k], g.n, 0, rfl, hwa.same s02, SqL.of upd_same, hok.lo, hok.hi, hok.ins, by omega, by simp, fun i hi => ?_, Nat.zero_le _, fun H3 s3 => ?_⟩
        · have : i = k := by simpa using hi
          omega
        have s03 := s02.trans s3
        refine ⟨_, rfl, by show 1 ≤ sizeLine; decide, fun d nd => ?_⟩
        have s4 : Same H3 (upd H3 d (.lst [V.int ((ST.manyWith g.n g.ways [k] 0 : Nat) : Int)])) := same_upd nd
        have s04 := s03.trans s4
        have hml := ST.many_le hok
        refine ⟨_, rfl, _, rfl, ST.manyWith g.n g.ways [k] 0, ST.many g, rfl, by omega, by omega, fun H5 p5 s5 np5 hp5 => ?_⟩
        refine cat_ok (s5 _ _ upd_same) hp5 (by show 1 + 2 ≤ _; decide) fun p6 np6 => ?_
        have s05 := s04.trans s5
        refine q _ p6 (same_new s05 (s05.free np6)) (s05.free np6) ?_
        rw [upd_same, ST.ans_share hok (by omega) e2]
        rfl
end
end SP
end
section
set_option Elab.async false
set_option linter.all false
set_option maxRecDepth 100000
set_option maxHeartbeats 4000000
namespace SP
open PySem PySem.Spec PyProof.Rows L2
/-! ### a dict of the module, int keys -/
def keysI (es : Array DictEntry) : Bool := es.toList.all fun e => match e.key with
  | .int k _ => e.hash == hashInt k
  | _ => false
def KDI (K : PySem.W.Frag) (a : Addr) (k : Int) (v : V) : Prop := ∃ es n u, K.lookup a = some ⟨.type "dict", none, .dict es n, #[]⟩ ∧ keysI es = true ∧ findBy Value.isInt es k = some u ∧ RelV v u
def rIxDI (K : PySem.W.Frag) : R2 := fun x y H Q => ∃ p k v, x = .ref p ∧ y = .int k ∧ KDI K p k v ∧ Q v H
theorem keysI_of {prog : Program} {w : World} {es : Array DictEntry} (h : keysI es = true) : KeysOf (PySem.intKind prog w) es := fun e he => by
  have q := List.all_eq_true.mp h e (by simpa using he)
  cases hk : e.key with
  | int k t =>
    rw [hk] at q
    have q' : e.hash = hashInt k := by simpa using q
    refine ⟨k, ?_, q'⟩
    show Value.isInt k (.int k t) = true
    simp [Value.isInt]
  | _ => rw [hk] at q; cases q
theorem ix_kdictI {X : Cx} : IxR X (rIxDI X.K) := by
  intro val sli pins s σ H x y v u Q I rx ry h hs
  obtain ⟨p, k, r, rfl, rfl, ⟨es, n, u0, hl, hk, e, ru⟩, q⟩ := h
  obtain rfl : v = Value.ref p := rx
  obtain ⟨t, rfl⟩ := ry
  have hm : s.heap.MapOf (PySem.intKind X.prog X.w) p (findBy Value.isInt es) := ⟨_, es, n, I.kIn p _ hl, ⟨rfl, rfl, rfl⟩, rfl, keysI_of hk, fun _ => rfl⟩
  exact tail_any hm.typeIs slot_dict_getitem.lookup (wpAny_getItem_of (knd := PySem.intKind X.prog X.w) (show Value.isInt k (.int k t) = true by simp [Value.isInt]) hm e ⟨r, H, I.tok _, ru, q⟩) hs
section
variable {P : Program} {w : World} {K : PySem.W.Frag} {mg : Str → Option Value} {base : Heap} {C : Addr}
/-- what a deed promises -/
def spDo (K : PySem.W.Frag) (C : Addr) (c : Nat) : Sp := fun vs H Q _ => ∃ (a nA rA : Addr) (g : Sq57.Graph) (nums row : List Nat) (N : Addr → Prop), vs = [.ref a, .ref nA, .ref rA] ∧ (∀ z, H z = none → N z) ∧ GraphAt C N H a g ∧ ST.SOk g ∧ SqL K H nA (nVs nums) ∧ nums.length = ST.numN c ∧ SqL K H rA (nVs row) ∧ row.length ≤ 20000 ∧
  ∀ (H' : Hp) (p : Addr), (∀ x o, H x = some o → x ≠ a → H' x = some o) → GraphAt C N H' a (ST.nxt g (ST.callN c nums row)) → H p = none → H' p = some (.lst (iVs (ST.ans g (ST.callN c nums row)))) → Q (.ref p) H'
abbrev psDo : List Str := ["graph", "numbers", "row"]
theorem spDo_len {c : Nat} {vs : List V} {H : Hp} {Q : VK} {E : XK} (h : spDo K C c vs H Q E) : vs.length = (["graph", "numbers", "row"] : List Str).length := by
  obtain ⟨a, nA, rA, g, nums, row, N', rfl, _⟩ := h
  rfl
theorem one_num {nums : List Nat} (h : nums.length = 1) : ∃ x, nums = [x] := List.length_eq_one_iff.mp h
/-! ### do_begin -/
abbrev sDo1 : Stmt := topS 43
theorem scDo1 : FnScope ["graph", "numbers", "row"] ["graph", "numbers", "row"] (defScope sDo1) := ⟨rfl, rfl, rfl, by decide +kernel, rfl, by decide +kernel, by decide +kernel⟩
theorem ok_do1 {f fB : Addr} {fd dB : FuncData} (F : Fun K "do_begin" "do_begin" sDo1 f fd) (T : Txt K C) (m : Meth K C "begin" fB) (b : Binds K dB ["self", "n", "numbers"] []) (G : FnOk P w K mg base CX0 2 fB dB ["self", "n", "numbers"] (spBegin K C)) : FnOk P w K mg base CX0 9 f fd ["graph", "numbers", "row"] (spDo K C 1) := by
  refine F.ok scDo1 (fun vs H Q E h => spDo_len h) (fun cdv A outer s H vs Q E hr h => ?_)
  obtain ⟨a, nA, rA, g, nums, row, N', rfl, hNN, hG, hok, hN, hnl, hR, hrl, q⟩ := h
  obtain ⟨x, rfl⟩ := one_num hnl
  refine ⟨_, pss_one (ps_ret (pe_meth (pv 0) T.cl m G (hr.mono (by decide)) b .nil pass0 (pa_cons (pe_ix ix_list (pv 1) pe_int (fun _ _ => rfl)) (pa_cons (pv 2) pa_nil)))), ?_⟩
  obtain ⟨dx, wa, hNw, ha, hwa⟩ := id hG
  refine ⟨_, rfl, a, dx, _, rfl, ha, gF_no (by decide +kernel) (by decide +kernel) _ _, _, rfl, nA, _, _, _, rfl, rfl, hN, atI_nat (j := 0) rfl, _, rfl, a, rA, g, row, x, N', rfl, hNN, hG, hR, hrl, fun H' p h1 h2 h3 h4 => q H' p h1 h2 h3 h4⟩
/-! ### the deeds that only tell -/
theorem tell_q {c : Sq57.Call} {a : Addr} {g : Sq57.Graph} {H : Hp} {Q : VK} {N : Addr → Prop} (hc : ∀ n l, c ≠ .begin_ n l) (hG : GraphAt C N H a g)
    (q : ∀ (H' : Hp) (p : Addr), (∀ x o, H x = some o → x ≠ a → H' x = some o) → GraphAt C N H' a (ST.nxt g c) → H p = none → H' p = some (.lst (iVs (ST.ans g c))) → Q (.ref p) H') :
    ∀ (H' : Hp) (p : Addr), Same H H' → H p = none → H' p = some (.lst (iVs (ST.ans g c))) → Q (.ref p) H' := fun H' p s np hp =>
  q H' p (fun x o hx _ => s x o hx) (by rw [ST.nxt_same g c hc]; exact hG.same s) np hp
/-! ### do_count -/
abbrev sDo2 : Stmt := topS 44
theorem scDo2 : FnScope ["graph", "numbers", "row"] ["graph", "numbers", "row"] (defScope sDo2) := ⟨rfl, rfl, rfl, by decide +kernel, rfl, by decide +kernel, by decide +kernel⟩
theorem ok_do2 {f fB : Addr} {fd dB : FuncData} (F : Fun K "do_count" "do_count" sDo2 f fd) (T : Txt K C) (m : Meth K C "told_count" fB) (b : Binds K dB ["self"] []) (G : FnOk P w K mg base CX0 8 fB dB ["self"] (spTell K C moCount)) : FnOk P w K mg base CX0 9 f fd ["graph", "numbers", "row"] (spDo K C 2) := by
  refine F.ok scDo2 (fun vs H Q E h => spDo_len h) (fun cdv A outer s H vs Q E hr h => ?_)
  obtain ⟨a, nA, rA, g, nums, row, N', rfl, hNN, hG, hok, hN, hnl, hR, hrl, q⟩ := h
  refine ⟨_, pss_one (ps_ret (pe_meth0 (pv 0) T.cl m G hr b .nil pass0)), ?_⟩
  obtain ⟨dx, wa, hNw, ha, hwa⟩ := id hG
  exact ⟨_, rfl, a, dx, _, rfl, ha, gF_no (by decide +kernel) (by decide +kernel) _ _, a, g, [], _, _, rfl, hG, hok, ⟨rfl, rfl⟩, tell_q (c := .count) (fun _ _ z => nomatch z) hG q⟩
/-! ### do_make -/
abbrev sDo3 : Stmt := topS 45
theorem scDo3 : FnScope ["graph", "numbers", "row"] ["graph", "numbers", "row"] (defScope sDo3) := ⟨rfl, rfl, rfl, by decide +kernel, rfl, by decide +kernel, by decide +kernel⟩
theorem ok_do3 {f fB : Addr} {fd dB : FuncData} (F : Fun K "do_make" "do_make" sDo3 f fd) (T : Txt K C) (m : Meth K C "told_make" fB) (b : Binds K dB ["self", "k"] []) (G : FnOk P w K mg base CX0 8 fB dB ["self", "k"] (spTell K C moMake)) : FnOk P w K mg base CX0 9 f fd ["graph", "numbers", "row"] (spDo K C 3) := by
  refine F.ok scDo3 (fun vs H Q E h => spDo_len h) (fun cdv A outer s H vs Q E hr h => ?_)
  obtain ⟨a, nA, rA, g, nums, row, N', rfl, hNN, hG, hok, hN, hnl, hR, hrl, q⟩ := h
  obtain ⟨x, rfl⟩ := one_num hnl
  refine ⟨_, pss_one (ps_ret (pe_meth (pv 0) T.cl m G hr b .nil pass0 (pa_cons (pe_ix ix_list (pv 1) pe_int (fun _ _ => rfl)) pa_nil))), ?_⟩
  obtain ⟨dx, wa, hNw, ha, hwa⟩ := id hG
  exact ⟨_, rfl, a, dx, _, rfl, ha, gF_no (by decide +kernel) (by decide +kernel) _ _, _, rfl, nA, _, _, _, rfl, rfl, hN, atI_nat (j := 0) rfl, a, g, _, _, _, rfl, hG, hok, ⟨x, rfl, rfl⟩, tell_q (c := .make x) (fun _ _ z => nomatch z) hG q⟩
/-! ### do_number -/
abbrev sDo4 : Stmt := topS 46
theorem scDo4 : FnScope ["graph", "numbers", "row"] ["graph", "numbers", "row"] (defScope sDo4) := ⟨rfl, rfl, rfl, by decide +kernel, rfl, by decide +kernel, by decide +kernel⟩
theorem ok_do4 {f fB : Addr} {fd dB : FuncData} (F : Fun K "do_number" "do_number" sDo4 f fd) (T : Txt K C) (m : Meth K C "told_number" fB) (b : Binds K dB ["self", "tree"] []) (G : FnOk P w K mg base CX0 7 fB dB ["self", "tree"] (spTell K C (moNumber K))) : FnOk P w K mg base CX0 9 f fd ["graph", "numbers", "row"] (spDo K C 4) := by
  refine F.ok scDo4 (fun vs H Q E h => spDo_len h) (fun cdv A outer s H vs Q E hr h => ?_)
  obtain ⟨a, nA, rA, g, nums, row, N', rfl, hNN, hG, hok, hN, hnl, hR, hrl, q⟩ := h
  refine ⟨_, pss_one (ps_ret (pe_meth (pv 0) T.cl m G (hr.mono (by decide)) b .nil pass0 (pa_cons (pv 2) pa_nil))), ?_⟩
  obtain ⟨dx, wa, hNw, ha, hwa⟩ := id hG
  exact ⟨_, rfl, a, dx, _, rfl, ha, gF_no (by decide +kernel) (by decide +kernel) _ _, _, rfl, a, g, _, _, _, rfl, hG, hok, ⟨rA, row, rfl, hR, hrl, rfl⟩, tell_q (c := .number row) (fun _ _ z => nomatch z) hG q⟩
/-! ### do_next -/
abbrev sDo5 : Stmt := topS 47
theorem scDo5 : FnScope ["graph", "numbers", "row"] ["graph", "numbers", "row"] (defScope sDo5) := ⟨rfl, rfl, rfl, by decide +kernel, rfl, by decide +kernel, by decide +kernel⟩
theorem ok_do5 {f fB : Addr} {fd dB : FuncData} (F : Fun K "do_next" "do_next" sDo5 f fd) (T : Txt K C) (m : Meth K C "told_next" fB) (b : Binds K dB ["self", "tree"] []) (G : FnOk P w K mg base CX0 8 fB dB ["self", "tree"] (spTell K C (moNext K))) : FnOk P w K mg base CX0 9 f fd ["graph", "numbers", "row"] (spDo K C 5) := by
  refine F.ok scDo5 (fun vs H Q E h => spDo_len h) (fun cdv A outer s H vs Q E hr h => ?_)
  obtain ⟨a, nA, rA, g, nums, row, N', rfl, hNN, hG, hok, hN, hnl, hR, hrl, q⟩ := h
  refine ⟨_, pss_one (ps_ret (pe_meth (pv 0) T.cl m G hr b .nil pass0 (pa_cons (pv 2) pa_nil))), ?_⟩
  obtain ⟨dx, wa, hNw, ha, hwa⟩ := id hG
  exact ⟨_, rfl, a, dx, _, rfl, ha, gF_no (by decide +kernel) (by decide +kernel) _ _, _, rfl, a, g, _, _, _, rfl, hG, hok, ⟨rA, row, rfl, hR, hrl, rfl⟩, tell_q (c := .next row) (fun _ _ z => nomatch z) hG q⟩
/-! ### do_list -/
abbrev sDo6 : Stmt := topS 48
theorem scDo6 : FnScope ["graph", "numbers", "row"] ["graph", "numbers", "row"] (defScope sDo6) := ⟨rfl, rfl, rfl, by decide +kernel, rfl, by decide +kernel, by decide +kernel⟩
theorem ok_do6 {f fB : Addr} {fd dB : FuncData} (F : Fun K "do_list" "do_list" sDo6 f fd) (T : Txt K C) (m : Meth K C "told_list" fB) (b : Binds K dB ["self"] []) (G : FnOk P w K mg base CX0 8 fB dB ["self"] (spTell K C moList)) : FnOk P w K mg base CX0 9 f fd ["graph", "numbers", "row"] (spDo K C 6) := by
  refine F.ok scDo6 (fun vs H Q E h => spDo_len h) (fun cdv A outer s H vs Q E hr h => ?_)
  obtain ⟨a, nA, rA, g, nums, row, N', rfl, hNN, hG, hok, hN, hnl, hR, hrl, q⟩ := h
  refine ⟨_, pss_one (ps_ret (pe_meth0 (pv 0) T.cl m G hr b .nil pass0)), ?_⟩
  obtain ⟨dx, wa, hNw, ha, hwa⟩ := id hG
  exact ⟨_, rfl, a, dx, _, rfl, ha, gF_no (by decide +kernel) (by decide +kernel) _ _, a, g, [], _, _, rfl, hG, hok, ⟨rfl, rfl⟩, tell_q (c := .list) (fun _ _ z => nomatch z) hG q⟩
/-! ### do_share -/
abbrev sDo7 : Stmt := topS 49
theorem scDo7 : FnScope ["graph", "numbers", "row"] ["graph", "numbers", "row"] (defScope sDo7) := ⟨rfl, rfl, rfl, by decide +kernel, rfl, by decide +kernel, by decide +kernel⟩
theorem ok_do7 {f fB : Addr} {fd dB : FuncData} (F : Fun K "do_share" "do_share" sDo7 f fd) (T : Txt K C) (m : Meth K C "told_share" fB) (b : Binds K dB ["self", "way"] []) (G : FnOk P w K mg base CX0 8 fB dB ["self", "way"] (spTell K C moShare)) : FnOk P w K mg base CX0 9 f fd ["graph", "numbers", "row"] (spDo K C 7) := by
  refine F.ok scDo7 (fun vs H Q E h => spDo_len h) (fun cdv A outer s H vs Q E hr h => ?_)
  obtain ⟨a, nA, rA, g, nums, row, N', rfl, hNN, hG, hok, hN, hnl, hR, hrl, q⟩ := h
  obtain ⟨x, rfl⟩ := one_num hnl
  refine ⟨_, pss_one (ps_ret (pe_meth (pv 0) T.cl m G hr b .nil pass0 (pa_cons (pe_ix ix_list (pv 1) pe_int (fun _ _ => rfl)) pa_nil))), ?_⟩
  obtain ⟨dx, wa, hNw, ha, hwa⟩ := id hG
  exact ⟨_, rfl, a, dx, _, rfl, ha, gF_no (by decide +kernel) (by decide +kernel) _ _, _, rfl, nA, _, _, _, rfl, rfl, hN, atI_nat (j := 0) rfl, a, g, _, _, _, rfl, hG, hok, ⟨x, rfl, rfl⟩, tell_q (c := .share x) (fun _ _ z => nomatch z) hG q⟩
/-! ### do_to_row, do_of_row -/
abbrev sDo8 : Stmt := topS 50
theorem scDo8 : FnScope ["graph", "numbers", "row"] ["graph", "numbers", "row"] (defScope sDo8) := ⟨rfl, rfl, rfl, by decide +kernel, rfl, by decide +kernel, by decide +kernel⟩
theorem ok_do8 {f fB : Addr} {fd dB : FuncData} (F : Fun K "do_to_row" "do_to_row" sDo8 f fd) (FB : Fun K "told_row" "told_row" sToldRow fB dB) (b : Binds K dB ["n", "numbers"] []) (gB : mg "told_row" = some (.ref fB)) (G : FnOk P w K mg base CX0 4 fB dB ["n", "numbers"] (spToldRow K)) : FnOk P w K mg base CX0 9 f fd ["graph", "numbers", "row"] (spDo K C 8) := by
  refine F.ok scDo8 (fun vs H Q E h => spDo_len h) (fun cdv A outer s H vs Q E hr h => ?_)
  obtain ⟨a, nA, rA, g, nums, row, N', rfl, hNN, hG, hok, hN, hnl, hR, hrl, q⟩ := h
  obtain ⟨x, rfl⟩ := one_num hnl
  refine ⟨_, pss_one (ps_ret (pe_call G (hr.mono (by decide)) (by rfl) gB FB.kp b .nil pass0 (pa_cons (pe_ix ix_list (pv 1) pe_int (fun _ _ => rfl)) (pa_cons (pv 2) pa_nil)))), ?_⟩
  exact ⟨_, rfl, nA, _, _, _, rfl, rfl, hN, atI_nat (j := 0) rfl, _, rfl, rA, row, x, g, rfl, hR, hrl, tell_q (c := .toRow x row) (fun _ _ z => nomatch z) hG q⟩
abbrev sDo9 : Stmt := topS 51
theorem scDo9 : FnScope ["graph", "numbers", "row"] ["graph", "numbers", "row"] (defScope sDo9) := ⟨rfl, rfl, rfl, by decide +kernel, rfl, by decide +kernel, by decide +kernel⟩
theorem ok_do9 {f fB : Addr} {fd dB : FuncData} (F : Fun K "do_of_row" "do_of_row" sDo9 f fd) (FB : Fun K "told_tree" "told_tree" sToldTree fB dB) (b : Binds K dB ["n", "row"] []) (gB : mg "told_tree" = some (.ref fB)) (G : FnOk P w K mg base CX0 3 fB dB ["n", "row"] (spToldTree K)) : FnOk P w K mg base CX0 9 f fd ["graph", "numbers", "row"] (spDo K C 9) := by
  refine F.ok scDo9 (fun vs H Q E h => spDo_len h) (fun cdv A outer s H vs Q E hr h => ?_)
  obtain ⟨a, nA, rA, g, nums, row, N', rfl, hNN, hG, hok, hN, hnl, hR, hrl, q⟩ := h
  obtain ⟨x, rfl⟩ := one_num hnl
  refine ⟨_, pss_one (ps_ret (pe_call G (hr.mono (by decide)) (by rfl) gB FB.kp b .nil pass0 (pa_cons (pe_ix ix_list (pv 1) pe_int (fun _ _ => rfl)) (pa_cons (pv 2) pa_nil)))), ?_⟩
  exact ⟨_, rfl, nA, _, _, _, rfl, rfl, hN, atI_nat (j := 0) rfl, _, rfl, rA, row, x, g, rfl, hR, hrl, tell_q (c := .ofRow x row) (fun _ _ z => nomatch z) hG q⟩
end
end SP
end
section
set_option Elab.async false
set_option linter.all false
set_option maxRecDepth 100000
set_option maxHeartbeats 4000000
namespace SP
open PySem PySem.Spec PyProof.Rows L2
/-! ### a call of a local name that holds one of several defs -/
def tCallH (P : Program) (w : World) (K : PySem.W.Frag) (mg : Str → Option Value) (base : Heap) (k i : Nat) (t : TA) : TE := fun σ H Q => ∃ f sp, σ[i]? = some (some (.ref f)) ∧ Held P w K mg base k f sp ∧ t σ H fun vs H1 => sp vs H1 Q (fun _ _ _ => False)
theorem pe_callH {X : Cx} {k i : Nat} {x : Str} {p pos : Pos} {e : Expr} {es : List Expr} {t : TA} (hr : Room k X.A) (hN : X.N[i]? = some x) (hv : Vis X.env.scope x) (ha : PA X (e :: es) t)
    (h1 : (x == ("__debug__" : Str)) = false := by decide) (h2 : (x == ("__classdict__" : Str)) = false := by decide)
    (h3 : starEach (e :: es) X.env = (false, eval e X.env) :: starEach es X.env := by rfl) (h4 : (backTo pos (starEach es X.env)).any (·.1) = false := by rfl) : PE X (.Call (.Name x p) (e :: es) [] pos) (tCallH X.prog X.w X.K X.mg X.base k i t) := by
  constructor
  intro pins s σ H Q I h
  obtain ⟨f, sp, hs, held, ht⟩ := h
  have one : ∀ g q, (if g = f then some sp else none) = some q → Held X.prog X.w X.K X.mg X.base k g q := by
    intro g q c
    by_cases z : g = f
    · rw [if_pos z] at c
      cases c
      rw [z]
      exact held
    · rw [if_neg z] at c
      cases c
  exact (pe_callA (S := fun g => if g = f then some sp else none) one hr hN hv ha h1 h2 h3 h4).run pins s σ H Q I ⟨f, sp, hs, if_pos rfl, ht⟩
section
variable {P : Program} {w : World} {K : PySem.W.Frag} {mg : Str → Option Value} {base : Heap} {C : Addr}
/-! ### answers(calls) -/
abbrev sAns : Stmt := topS 55
theorem scAns : FnScope ["calls", "graph", "found", "at", "call", "begin", "numbers", "row", "deed", "told"] ["calls"] (defScope sAns) := ⟨rfl, rfl, rfl, by decide +kernel, rfl, by decide +kernel, by decide +kernel⟩
def spAns (K : PySem.W.Frag) : Sp := fun vs H Q _ => ∃ (a : Addr) (ns : List Int), vs = [.ref a] ∧ SqL K H a (ns.map V.int) ∧ ns.length ≤ 16000 ∧ (∀ x ∈ ns, 0 ≤ x) ∧ PySq57.answers_asked ns = true ∧
  ∀ (H' : Hp) (p : Addr), H' p = some (.lst ((PySq57.answers ns).map V.int)) → Q (.ref p) H'
/-- the tables of the module -/
structure Tab (P : Program) (w : World) (K : PySem.W.Frag) (mg : Str → Option Value) (base : Heap) (C dD dN dW : Addr) : Prop where
  gD : mg "DEEDS" = some (.ref dD)
  gN : mg "NUMBERS" = some (.ref dN)
  gW : mg "WITH_ROW" = some (.ref dW)
  num : ∀ c : Nat, 1 ≤ c → c ≤ 9 → KDI K dN (c : Int) (.int ((ST.numN c : Nat) : Int))
  deed : ∀ c : Nat, 1 ≤ c → c ≤ 9 → ∃ f, KDI K dD (c : Int) (.ref f) ∧ Held P w K mg base 9 f (spDo K C c)
  row : ∀ H : Hp, SqT K H dW [.int 1, .int 4, .int 5, .int 8, .int 9]
theorem inV_row (c : Nat) (h1 : 1 ≤ c) (h9 : c ≤ 9) : inV (.int (c : Int)) [.int 1, .int 4, .int 5, .int 8, .int 9] = ST.withRow c := by
  have : c = 1 ∨ c = 2 ∨ c = 3 ∨ c = 4 ∨ c = 5 ∨ c = 6 ∨ c = 7 ∨ c = 8 ∨ c = 9 := by omega
  rcases this with h | h | h | h | h | h | h | h | h <;> subst h <;> decide
theorem cut_mid (l : List Nat) (i j : Nat) (h : i ≤ j) (hj : j ≤ l.length) : cutV (nVs l) (some (i : Int)) (some (j : Int)) = nVs ((l.drop i).take (j - i)) := by
  unfold cutV
  rw [HT.sIx_nat, HT.sIx_nat, nVs_len, Nat.min_eq_left hj, Nat.min_eq_left (by omega)]
  unfold nVs
  rw [List.map_take, List.map_drop]
theorem drop_get {l : List Nat} {i k x : Nat} {r : List Nat} (h : l.drop i = r) (hx : r[k]? = some x) : l[i + k]? = some x := by
  rw [← h, List.getElem?_drop] at hx
  exact hx
theorem ok_ans {f fI dD dN dW : Addr} {fd dI : FuncData} (F : Fun K "answers" "answers" sAns f fd) (T : Txt K C) (gC : mg "Graph" = some (.ref C)) (M : Mk K C fI) (FI : Fun K "__init__" "Graph.__init__" sInit fI dI) (bI : Binds K dI ["self"] []) (B : Tab P w K mg base C dD dN dW) (ml : mg "len" = none) :
    FnOk P w K mg base CX0 10 f fd ["calls"] (spAns K) := by
  have GI : FnOk P w K mg base CX0 1 fI dI ["self"] (spInit K C) := ok_init FI T
  refine F.ok scAns (fun vs H Q E h => ?_) (fun cdv A outer s H vs Q E hr h => ?_)
  · obtain ⟨a, ns, rfl, _⟩ := h
    rfl
  · obtain ⟨a, ns, rfl, hS0, hlen, hpos, hask, q⟩ := h
    have hr2 : Room 2 _ := hr.mono (by decide)
    refine ⟨_, pss_cons (ps_set (i := 1) scAns.nd rfl (.inl rfl) (pe_make0 M GI hr2 rfl gC bI .nil pass0))
      (pss_cons (ps_set (i := 2) scAns.nd rfl (.inl rfl) (pe_lst pa_nil))
      (pss_cons (ps_set (i := 3) scAns.nd rfl (.inl rfl) pe_int)
      (pss_cons (ps_while PassesOwn.never (pt_cmpR op_lt (pv 3) (pe_callB call_len_seq (by rfl) ml PySem.boot_len (pa_cons (pv 0) pa_nil)) (nomark _))
        (pss_cons (ps_set (i := 4) scAns.nd rfl (.inl rfl) (pe_ix ix_list (pv 0) (pv 3) (fun _ _ => rfl)))
        (pss_cons (ps_set (i := 5) scAns.nd rfl (.inl rfl) (pe_op op_add (pe_op op_add (pv 3) pe_int) (pe_ix ix_kdictI (pe_glob rfl B.gN (v := .ref dN) rfl) (pv 4) (fun _ _ => rfl))))
        (pss_cons (ps_set (i := 6) scAns.nd rfl (.inl rfl) (pe_slice sl_list (pv 0) (po_some (pe_op op_add (pv 3) pe_int)) (po_some (pv 5))))
        (pss_cons (ps_set (i := 7) scAns.nd rfl (.inl rfl) (pe_lst pa_nil))
        (pss_cons (ps_if (pt_cmpR op_in_seq (pv 4) (pe_glob rfl B.gW (v := .ref dW) rfl) (by rfl))
          (pss_cons (ps_set (i := 7) scAns.nd rfl (.inl rfl) (pe_slice sl_list (pv 0) (po_some (pe_op op_add (pv 5) pe_int)) (po_some (pe_op op_add (pe_op op_add (pv 5) pe_int) (pe_ix ix_list (pv 0) (pv 5) (fun _ _ => rfl))))))
          (pss_one (ps_set (i := 5) scAns.nd rfl (.inl rfl) (pe_op op_add (pe_op op_add (pv 5) pe_int) (pe_ix ix_list (pv 0) (pv 5) (fun _ _ => rfl)))))) pss_nil)
        (pss_cons (ps_set (i := 8) scAns.nd rfl (.inl rfl) (pe_ix ix_kdictI (pe_glob rfl B.gD (v := .ref dD) rfl) (pv 4) (fun _ _ => rfl)))
        (pss_cons (ps_set (i := 9) scAns.nd rfl (.inl rfl) (pe_callH (i := 8) hr rfl (.inl rfl) (pa_cons (pv 1) (pa_cons (pv 6) (pa_cons (pv 7) pa_nil)))))
        (pss_cons (ps_expr (pe_bm PySem.F.plainAttrs_list PySem.F.slot_list_append PySem.F.type_list_append mt_append (pv 2) (pa_cons (pe_callB call_len_seq (by rfl) ml PySem.boot_len (pa_cons (pv 9) pa_nil)) pa_nil)))
        (pss_cons (ps_expr (pe_bm PySem.F.plainAttrs_list PySem.F.slot_list_extend PySem.F.type_list_extend mt_extend (pv 2) (pa_cons (pv 9) pa_nil)))
        (pss_one (ps_set (i := 3) scAns.nd rfl (.inl rfl) (pv 5)))))))))))))
      (pss_one (ps_ret (pv 2)))))), ?_⟩
    -- the numbers from 0 on
    let ms : List Nat := ns.map Int.toNat
    have ens : ns = ST.inL ms := by
      show ns = (ns.map Int.toNat).map Int.ofNat
      rw [List.map_map]
      have : ∀ l : List Int, (∀ x ∈ l, 0 ≤ x) → l = l.map (Int.ofNat ∘ Int.toNat) := by
        intro l
        induction l with
        | nil => intro _; rfl
        | cons x l ih =>
          intro hx
          rw [List.map_cons, ← ih fun y hy => hx y (List.mem_cons_of_mem _ hy)]
          congr 1
          have := hx x List.mem_cons_self
          show x = ((x.toNat : Nat) : Int)
          omega
      exact this ns hpos
    have hml : ms.length = ns.length := by show (ns.map Int.toNat).length = _; simp
    have hS : SqL K H a (nVs ms) := by rw [nVs_int, ← ens]; exact hS0
    obtain ⟨raw0, hraw, hansw, htot⟩ := ST.answers_due hask
    rw [ens] at hraw
    generalize hms : ms = ls at *
    clear ens hms ms
    -- graph = Graph()
    refine fun gA dx0 ngA ndx nex => ?_
    refine ⟨gA, dx0, fun _ => True, rfl, fun _ _ => trivial, upd_same, fun H1 hG1 kp1 => ⟨rfl, ?_⟩⟩
    have s1 : Same H H1 := Same.made ngA ndx kp1
    -- found = []; at = 0
    refine ⟨Nat.zero_le _, fun o no => ?_⟩
    have s2 : Same H1 (upd H1 o (.lst [])) := same_upd no
    have noH : H o = none := s1.free no
    have hG1' : GraphAt C (fun z => z ≠ o) H1 gA Sq57.fresh := by
      obtain ⟨dx, wa, _, ha, hwa⟩ := hG1
      obtain ⟨as, hw1, hw2⟩ := id hwa
      exact ⟨dx, wa, ne_of_none hw1 no, ha, hwa⟩
    -- the loop
    refine while_by (fun σ H2 => ∃ (at_ fu : Nat) (g : Sq57.Graph) (raw : List (List (List Int))) (fnd : List Int) (y4 y5 y6 y7 y8 y9 : Option V), σ = [some (.ref a), some (.ref gA), some (.ref o), some (.int ((at_ : Nat) : Int)), y4, y5, y6, y7, y8, y9] ∧
        at_ ≤ ls.length ∧ PyFlat.calls PySq57.shape fu (ST.inL (ls.drop at_)) = some raw ∧ Same H H2 ∧ GraphAt C (fun z => z ≠ o) H2 gA g ∧ ST.SOk g ∧ H2 o = some (.lst (iVs fnd)) ∧ fnd ++ ST.due g raw = PySq57.answers ns)
      (fun σ _ => match σ with | _ :: _ :: _ :: some (.int z) :: _ => ls.length - z.toNat | _ => 0)
      ⟨0, _, Sq57.fresh, raw0, [], none, none, none, none, none, none, rfl, Nat.zero_le _, hraw, s1.trans s2, hG1'.same s2, ST.SOk.fresh, upd_same, by rw [hansw]; rfl⟩ (fun σ H2 h => ?_) (fun σ H2 Q1 Q2 hQ h => ?_)
    · obtain ⟨at_, fu, g, raw, fnd, y4, y5, y6, y7, y8, y9, rfl, hat, hcalls, sm, hG, hok, eo, heq⟩ := h
      have hSm : SqL K H2 a (nVs ls) := sm.seq hS
      refine ⟨_, rfl, _, rfl, a, _, rfl, .inl hSm, _, _, rfl, rfl, _, rfl, ?_⟩
      rw [nVs_len]
      refine ite2 (fun e => ?_) (fun e => ?_)
      · have hlt : at_ < ls.length := by have := of_decide_eq_true e; omega
        -- the call as it lies
        obtain ⟨c, r, hdr⟩ : ∃ c r, ls.drop at_ = c :: r := ⟨_, _, List.drop_eq_getElem_cons hlt⟩
        rw [hdr] at hcalls
        obtain ⟨fu', cc, tt, raw', rfl, rfl, hcall, hcalls'⟩ := ST.calls_cons hcalls
        obtain ⟨nums, row, rest, hc1, hc9, hnl, hrow0, hflat, rfl, rfl⟩ := ST.call_form hcall
        rw [ST.due_cons g hc1 hc9 hnl] at heq
        have hbody : r = nums ++ ((if ST.withRow c = true then row.length :: row else []) ++ rest) := by
          have h1 : c :: r = c :: (nums ++ (if ST.withRow c = true then row.length :: row else []) ++ rest) := hflat
          injection h1 with _ h2
          rw [h2, List.append_assoc]
        have gc : (nVs ls)[at_]? = some (.int (c : Int)) := nVs_get (drop_get (k := 0) hdr rfl)
        have hdr1 : ls.drop (at_ + 1) = r := by
          have : (ls.drop at_).drop 1 = r := by rw [hdr]; rfl
          rw [List.drop_drop] at this
          exact this
        have hrl : r.length + (at_ + 1) = ls.length := by
          have := congrArg List.length hdr1
          rw [List.length_drop] at this
          omega
        have hnr : nums.length ≤ r.length := by rw [hbody, List.length_append]; omega
        -- call = calls[at]
        refine ⟨_, rfl, _, rfl, a, _, _, _, rfl, rfl, hSm, atI_nat gc, ?_⟩
        -- begin = at + 1 + NUMBERS[call]
        refine ⟨_, rfl, _, _, rfl, rfl, _, rfl, dN, _, _, rfl, rfl, B.num c hc1 hc9, _, _, rfl, rfl, ?_⟩
        have eb : ((at_ : Nat) : Int) + 1 + ((ST.numN c : Nat) : Int) = ((at_ + 1 + nums.length : Nat) : Int) := by rw [← hnl]; omega
        -- numbers = calls[at + 1:begin]
        refine ⟨_, rfl, _, rfl, _, _, rfl, rfl, _, rfl, _, rfl, _, rfl, a, _, rfl, hSm, fun nA nnA => ?_⟩
        have ecut : cutV (nVs ls) (some (((at_ : Nat) : Int) + 1)) (some (((at_ : Nat) : Int) + 1 + ((ST.numN c : Nat) : Int))) = nVs nums := by
          have e1 : ((at_ : Nat) : Int) + 1 = ((at_ + 1 : Nat) : Int) := by omega
          rw [eb, e1, cut_mid ls (at_ + 1) (at_ + 1 + nums.length) (by omega) (by omega), hdr1, hbody]
          congr 1
          have : at_ + 1 + nums.length - (at_ + 1) = nums.length := by omega
          rw [this, List.take_left']
          rfl
        have s3 : Same H2 (upd H2 nA (.lst (cutV (nVs ls) (some (((at_ : Nat) : Int) + 1)) (some (((at_ : Nat) : Int) + 1 + ((ST.numN c : Nat) : Int)))))) := same_upd nnA
        have eN3 : (upd H2 nA (.lst (cutV (nVs ls) (some (((at_ : Nat) : Int) + 1)) (some (((at_ : Nat) : Int) + 1 + ((ST.numN c : Nat) : Int)))))) nA = some (.lst (nVs nums)) := by rw [upd_same, ecut]
        generalize (upd H2 nA (.lst (cutV (nVs ls) (some (((at_ : Nat) : Int) + 1)) (some (((at_ : Nat) : Int) + 1 + ((ST.numN c : Nat) : Int)))))) = H3 at s3 eN3 ⊢
        -- row = []
        refine ⟨Nat.zero_le _, fun rA nrA => ?_⟩
        have s4 : Same H3 (upd H3 rA (.lst [])) := same_upd nrA
        -- if call in WITH_ROW
        refine ⟨_, rfl, dW, _, rfl, .inr (B.row _), rfl, rfl, _, rfl, ?_⟩
        have einv : (if false = true then !inV (V.int (c : Int)) [.int 1, .int 4, .int 5, .int 8, .int 9] else inV (V.int (c : Int)) [.int 1, .int 4, .int 5, .int 8, .int 9]) = ST.withRow c := inV_row c hc1 hc9
        rw [einv]
        have hdrN : ls.drop (at_ + 1 + nums.length) = (if ST.withRow c = true then row.length :: row else []) ++ rest := by
          have : (ls.drop (at_ + 1)).drop nums.length = (if ST.withRow c = true then row.length :: row else []) ++ rest := by rw [hdr1, hbody, List.drop_left']; rfl
          rw [List.drop_drop] at this
          exact this
        refine ite2 (fun ew => ?_) (fun ew => ?_)
        · rw [if_pos ew] at hdrN
          have hSm4 : SqL K (upd H3 rA (.lst [])) a (nVs ls) := s4.seq (s3.seq hSm)
          have gb : (nVs ls)[at_ + 1 + nums.length]? = some (.int ((row.length : Nat) : Int)) := nVs_get (drop_get (k := 0) hdrN rfl)
          have hlN := congrArg List.length hdrN
          rw [List.length_drop, List.length_append, List.length_cons] at hlN
          have gb' : atI (nVs ls) (((at_ : Nat) : Int) + 1 + ((ST.numN c : Nat) : Int)) = some (.int ((row.length : Nat) : Int)) := by rw [eb]; exact atI_nat gb
          -- row = calls[begin + 1:begin + 1 + calls[begin]]
          refine ⟨_, rfl, _, rfl, _, _, rfl, rfl, _, rfl, _, rfl, _, _, rfl, rfl, _, rfl, _, rfl, a, _, _, _, rfl, rfl, hSm4, gb', _, _, rfl, rfl, _, rfl, a, _, rfl, hSm4, fun RA nRA => ?_⟩
          have ecut2 : cutV (nVs ls) (some (((at_ : Nat) : Int) + 1 + ((ST.numN c : Nat) : Int) + 1)) (some (((at_ : Nat) : Int) + 1 + ((ST.numN c : Nat) : Int) + 1 + ((row.length : Nat) : Int))) = nVs row := by
            have e1 : ((at_ : Nat) : Int) + 1 + ((ST.numN c : Nat) : Int) + 1 = ((at_ + 1 + nums.length + 1 : Nat) : Int) := by omega
            have e2 : ((at_ : Nat) : Int) + 1 + ((ST.numN c : Nat) : Int) + 1 + ((row.length : Nat) : Int) = ((at_ + 1 + nums.length + 1 + row.length : Nat) : Int) := by omega
            rw [e2, e1, cut_mid ls _ _ (by omega) (by omega)]
            congr 1
            have h3 : ls.drop (at_ + 1 + nums.length + 1) = row ++ rest := by
              have : (ls.drop (at_ + 1 + nums.length)).drop 1 = row ++ rest := by rw [hdrN]; rfl
              rw [List.drop_drop] at this
              exact this
            have h4 : at_ + 1 + nums.length + 1 + row.length - (at_ + 1 + nums.length + 1) = row.length := by omega
            rw [h3, h4, List.take_left']
            rfl
          have s5 : Same (upd H3 rA (.lst [])) (upd (upd H3 rA (.lst [])) RA (.lst (cutV (nVs ls) (some (((at_ : Nat) : Int) + 1 + ((ST.numN c : Nat) : Int) + 1)) (some (((at_ : Nat) : Int) + 1 + ((ST.numN c : Nat) : Int) + 1 + ((row.length : Nat) : Int)))))) := same_upd nRA
          have eR5 : (upd (upd H3 rA (.lst [])) RA (.lst (cutV (nVs ls) (some (((at_ : Nat) : Int) + 1 + ((ST.numN c : Nat) : Int) + 1)) (some (((at_ : Nat) : Int) + 1 + ((ST.numN c : Nat) : Int) + 1 + ((row.length : Nat) : Int)))))) RA = some (.lst (nVs row)) := by rw [upd_same, ecut2]
          generalize (upd (upd H3 rA (.lst [])) RA (.lst (cutV (nVs ls) (some (((at_ : Nat) : Int) + 1 + ((ST.numN c : Nat) : Int) + 1)) (some (((at_ : Nat) : Int) + 1 + ((ST.numN c : Nat) : Int) + 1 + ((row.length : Nat) : Int)))))) = H5 at s5 eR5 ⊢
          have s25 : Same H2 H5 := s3.trans (s4.trans s5)
          have eN5 : H5 nA = some (.lst (nVs nums)) := s5 _ _ (s4 _ _ eN3)
          have hrowlen : row.length ≤ 20000 := by omega
          -- begin = begin + 1 + calls[begin]
          refine ⟨_, rfl, _, _, rfl, rfl, _, rfl, _, rfl, a, _, _, _, rfl, rfl, (sm.trans s25).seq hS, gb', _, _, rfl, rfl, ?_⟩
          have eB : ((at_ : Nat) : Int) + 1 + ((ST.numN c : Nat) : Int) + 1 + ((row.length : Nat) : Int) = ((at_ + (1 + nums.length + 1 + row.length) : Nat) : Int) := by omega
          have hdrL : ls.drop (at_ + (1 + nums.length + 1 + row.length)) = rest := by
            have : (ls.drop (at_ + 1 + nums.length)).drop (1 + row.length) = rest := by
              rw [hdrN, Nat.add_comm 1 row.length]
              show (row ++ rest).drop row.length = rest
              rw [List.drop_left']; rfl
            rw [List.drop_drop] at this
            have e9 : at_ + 1 + nums.length + (1 + row.length) = at_ + (1 + nums.length + 1 + row.length) := by omega
            rw [e9] at this
            exact this

          -- deed = DEEDS[call]
          obtain ⟨fdeed, hkd, hheld⟩ := B.deed c hc1 hc9
          refine ⟨_, rfl, dD, _, _, rfl, rfl, hkd, ?_⟩
          -- told = deed(graph, numbers, row)
          refine ⟨fdeed, _, rfl, hheld, _, rfl, _, rfl, _, rfl, gA, nA, RA, g, nums, row, (fun z => z ≠ o), rfl, (fun z hz e0 => by rw [e0, s25 _ _ eo] at hz; cases hz), hG.same s25, hok, SqL.of eN5, hnl, SqL.of eR5, hrowlen, fun H6 p6 k6 hG6 np6 hp6 => ?_⟩
          have hogA : o ≠ gA := by
            obtain ⟨dx, wa, _, ha, _⟩ := hG
            exact ne_of eo ha (by intro z; cases z)
          have eo5 := s25 _ _ eo
          have eo6 : H6 o = some (.lst (iVs fnd)) := k6 _ _ eo5 hogA
          have hp6o : p6 ≠ o := fun e0 => by rw [e0, eo5] at np6; cases np6
          have hlall := congrArg List.length heq
          rw [hansw] at hlall
          rw [List.length_append, List.length_append, List.length_cons] at hlall
          have hiv : ∀ l : List Int, (iVs l).length = l.length := fun l => by unfold iVs; simp
          have hsz : (10000000 : Nat) < sizeLine := by decide
          -- found.append(len(told)); found.extend(told); at = begin
          refine ⟨_, rfl, .inl ⟨rfl, _, SqL.of eo6⟩, _, rfl, p6, _, rfl, .inl (SqL.of hp6), o, _, _, rfl, rfl, eo6, (by rw [hiv]; omega), ?_⟩
          refine ⟨_, rfl, .inl ⟨rfl, _, SqL.of upd_same⟩, _, rfl, o, p6, _, _, rfl, rfl, upd_same, (by rw [upd_ne hp6o]; exact hp6), (by rw [List.length_append, hiv, hiv]; simp; omega), ?_⟩
          refine ⟨_, rfl, ?_⟩
          refine ⟨⟨at_ + (1 + nums.length + 1 + row.length), fu', ST.nxt g (ST.callN c nums row), raw', fnd ++ (((ST.ans g (ST.callN c nums row)).length : Int) :: ST.ans g (ST.callN c nums row)), some (.int ((c : Nat) : Int)), some (.int (((at_ : Nat) : Int) + 1 + ((ST.numN c : Nat) : Int) + 1 + ((row.length : Nat) : Int))), some (.ref nA), some (.ref RA), some (.ref fdeed), some (.ref p6), ?_, by omega, ?_, ?_, ?_, ST.begin_step hok _, ?_, ?_⟩, ?_⟩
          · rw [← eB]; rfl
          · rw [hdrL]; exact hcalls'
          · intro x ob hx
            have hxo : x ≠ o := ne_of_none hx noH
            have hxg : x ≠ gA := ne_of_none hx ngA
            rw [upd_ne hxo, upd_ne hxo]
            exact k6 _ _ (s25 _ _ (sm _ _ hx)) hxg
          · obtain ⟨dx, wa, hwo, ha, as, hw1, hw2⟩ := hG6
            refine ⟨dx, wa, hwo, ?_, as, ?_, Paired.mapP hw2 fun b v hb => ?_⟩
            · rw [upd_ne (Ne.symm hogA), upd_ne (Ne.symm hogA)]; exact ha
            · rw [upd_ne hwo, upd_ne hwo]; exact hw1
            · have hbo : b ≠ o := ne_of (show H6 b = some _ from hb) eo6 (by intro z; cases z)
              show (upd (upd H6 o _) o _) b = _
              rw [upd_ne hbo, upd_ne hbo]; exact hb
          · rw [upd_same, hiv]
            congr 2
            unfold iVs
            rw [List.map_append, List.map_cons, List.append_assoc]
            rfl
          · rw [← heq, List.append_assoc]
          · show ls.length - ((((at_ : Nat) : Int) + 1 + ((ST.numN c : Nat) : Int) + 1 + ((row.length : Nat) : Int) : Int)).toNat < ls.length - ((at_ : Nat) : Int).toNat
            rw [eB]
            omega

        · rw [if_neg ew] at hdrN
          have er0 : row = [] := hrow0 (by simpa using ew)
          subst er0
          let RA := rA
          have s25 : Same H2 (upd H3 rA (.lst [])) := s3.trans s4
          have eN5 : (upd H3 rA (.lst [])) nA = some (.lst (nVs nums)) := s4 _ _ eN3
          have eR5 : (upd H3 rA (.lst [])) RA = some (.lst (nVs [])) := upd_same
          generalize (upd H3 rA (.lst [])) = H5 at s25 eN5 eR5 ⊢
          have hrowlen : ([] : List Nat).length ≤ 20000 := by simp
          have eB : ((at_ : Nat) : Int) + 1 + ((ST.numN c : Nat) : Int) = ((at_ + (1 + nums.length) : Nat) : Int) := by omega
          have hdrL : ls.drop (at_ + (1 + nums.length)) = rest := by rw [← Nat.add_assoc, hdrN]; rfl

          -- deed = DEEDS[call]
          obtain ⟨fdeed, hkd, hheld⟩ := B.deed c hc1 hc9
          refine ⟨_, rfl, dD, _, _, rfl, rfl, hkd, ?_⟩
          -- told = deed(graph, numbers, row)
          refine ⟨fdeed, _, rfl, hheld, _, rfl, _, rfl, _, rfl, gA, nA, rA, g, nums, [], (fun z => z ≠ o), rfl, (fun z hz e0 => by rw [e0, s25 _ _ eo] at hz; cases hz), hG.same s25, hok, SqL.of eN5, hnl, SqL.of eR5, hrowlen, fun H6 p6 k6 hG6 np6 hp6 => ?_⟩
          have hogA : o ≠ gA := by
            obtain ⟨dx, wa, _, ha, _⟩ := hG
            exact ne_of eo ha (by intro z; cases z)
          have eo5 := s25 _ _ eo
          have eo6 : H6 o = some (.lst (iVs fnd)) := k6 _ _ eo5 hogA
          have hp6o : p6 ≠ o := fun e0 => by rw [e0, eo5] at np6; cases np6
          have hlall := congrArg List.length heq
          rw [hansw] at hlall
          rw [List.length_append, List.length_append, List.length_cons] at hlall
          have hiv : ∀ l : List Int, (iVs l).length = l.length := fun l => by unfold iVs; simp
          have hsz : (10000000 : Nat) < sizeLine := by decide
          -- found.append(len(told)); found.extend(told); at = begin
          refine ⟨_, rfl, .inl ⟨rfl, _, SqL.of eo6⟩, _, rfl, p6, _, rfl, .inl (SqL.of hp6), o, _, _, rfl, rfl, eo6, (by rw [hiv]; omega), ?_⟩
          refine ⟨_, rfl, .inl ⟨rfl, _, SqL.of upd_same⟩, _, rfl, o, p6, _, _, rfl, rfl, upd_same, (by rw [upd_ne hp6o]; exact hp6), (by rw [List.length_append, hiv, hiv]; simp; omega), ?_⟩
          refine ⟨_, rfl, ?_⟩
          refine ⟨⟨at_ + (1 + nums.length), fu', ST.nxt g (ST.callN c nums []), raw', fnd ++ (((ST.ans g (ST.callN c nums [])).length : Int) :: ST.ans g (ST.callN c nums [])), some (.int ((c : Nat) : Int)), some (.int (((at_ : Nat) : Int) + 1 + ((ST.numN c : Nat) : Int))), some (.ref nA), some (.ref RA), some (.ref fdeed), some (.ref p6), ?_, by omega, ?_, ?_, ?_, ST.begin_step hok _, ?_, ?_⟩, ?_⟩
          · rw [← eB]; rfl
          · rw [hdrL]; exact hcalls'
          · intro x ob hx
            have hxo : x ≠ o := ne_of_none hx noH
            have hxg : x ≠ gA := ne_of_none hx ngA
            rw [upd_ne hxo, upd_ne hxo]
            exact k6 _ _ (s25 _ _ (sm _ _ hx)) hxg
          · obtain ⟨dx, wa, hwo, ha, as, hw1, hw2⟩ := hG6
            refine ⟨dx, wa, hwo, ?_, as, ?_, Paired.mapP hw2 fun b v hb => ?_⟩
            · rw [upd_ne (Ne.symm hogA), upd_ne (Ne.symm hogA)]; exact ha
            · rw [upd_ne hwo, upd_ne hwo]; exact hw1
            · have hbo : b ≠ o := ne_of (show H6 b = some _ from hb) eo6 (by intro z; cases z)
              show (upd (upd H6 o _) o _) b = _
              rw [upd_ne hbo, upd_ne hbo]; exact hb
          · rw [upd_same, hiv]
            congr 2
            unfold iVs
            rw [List.map_append, List.map_cons, List.append_assoc]
            rfl
          · rw [← heq, List.append_assoc]
          · show ls.length - ((((at_ : Nat) : Int) + 1 + ((ST.numN c : Nat) : Int) : Int)).toNat < ls.length - ((at_ : Nat) : Int).toNat
            rw [eB]
            omega
      · have hge : at_ = ls.length := by
          by_cases z : at_ < ls.length
          · exact absurd (decide_eq_true (by omega)) e
          · omega
        subst hge
        rw [List.drop_length] at hcalls
        have er : raw = [] := by
          cases fu with
          | zero => exact (Option.some.inj hcalls).symm
          | succ _ => exact (Option.some.inj hcalls).symm
        subst er
        rw [ST.due_nil, List.append_nil] at heq
        subst heq
        exact ⟨_, rfl, q H2 o eo⟩
    · obtain ⟨v, e1, v2, e2, p2, ys, e3, e4, i, j, e5, e6, k', e7, h'⟩ := h
      exact ⟨v, e1, v2, e2, p2, ys, e3, e4, i, j, e5, e6, k', e7, hQ _ _ h'⟩
end
end SP
end
section
set_option Elab.async false
set_option linter.all false
set_option maxRecDepth 100000
set_option maxHeartbeats 4000000
namespace SP
open PySem PySem.Spec PyProof.Rows L2
/-! ### The end: what the top has written -/
section
variable {P : Program} {w : World} {K : PySem.W.Frag} {mg : Str → Option Value} {base : Heap} {C : Addr}
def DefX (K : PySem.W.Frag) (mg : Str → Option Value) (nm : Str) (st : Stmt) : Prop := ∃ f fd, Fun K nm nm st f fd ∧ mg nm = some (.ref f)
def MethX (K : PySem.W.Frag) (C : Addr) (nm q : Str) (st : Stmt) : Prop := ∃ f fd, Fun K nm q st f fd ∧ Meth K C nm f
def DeedX (K : PySem.W.Frag) (es : Array DictEntry) (c : Nat) (nm : Str) (st : Stmt) : Prop := ∃ f fd, Fun K nm nm st f fd ∧ findBy Value.isInt es (c : Int) = some (.ref f)
theorem defX {h : Heap} {nm : Str} {st : Stmt} {f : Addr} {oc : Value} {od an : Option Addr} {sl : Array (Option Value)} {kV dc pm cd ct : Value} (X : K.In h) (G : h.Ns mainGlobals mg)
    (a : PySem.W.nsIn K mainGlobals nm = some (some (.ref f)))
    (l : K.lookup f = some ⟨oc, od, .func (PySem.W.fnOf nm nm (defArgs st) (defBody st) (defScope st) .none kV dc pm an cd ct), sl⟩)
    (c : PySem.W.codeIn K cd nm = true) (k : PySem.W.keepIn K (.ref f) = true) : DefX K mg nm st :=
  ⟨f, _, fun_mk (st := st) l c k, PySem.W.mg_of X G a⟩
theorem methX {nm q : Str} {st : Stmt} {f : Addr} {oc : Value} {od an : Option Addr} {sl : Array (Option Value)} {kV dc pm cd ct : Value}
    (a : PySem.W.findIn K (.ref C) nm = some (some (.ref f))) (i : PySem.W.isFn K (.ref f) = true)
    (l : K.lookup f = some ⟨oc, od, .func (PySem.W.fnOf nm q (defArgs st) (defBody st) (defScope st) .none kV dc pm an cd ct), sl⟩)
    (c : PySem.W.codeIn K cd q = true) (k : PySem.W.keepIn K (.ref f) = true) : MethX K C nm q st :=
  ⟨f, _, fun_mk (st := st) l c k, ⟨a, i, k⟩⟩
theorem deedX {es : Array DictEntry} {n : Nat} {nm : Str} {st : Stmt} {f : Addr} {oc : Value} {od an : Option Addr} {sl : Array (Option Value)} {kV dc pm cd ct : Value}
    (a : findBy Value.isInt es (n : Int) = some (.ref f))
    (l : K.lookup f = some ⟨oc, od, .func (PySem.W.fnOf nm nm (defArgs st) (defBody st) (defScope st) .none kV dc pm an cd ct), sl⟩)
    (c : PySem.W.codeIn K cd nm = true) (k : PySem.W.keepIn K (.ref f) = true) : DeedX K es n nm st :=
  ⟨f, _, fun_mk (st := st) l c k, a⟩
theorem nine {c : Nat} (h1 : 1 ≤ c) (h9 : c ≤ 9) : c = 1 ∨ c = 2 ∨ c = 3 ∨ c = 4 ∨ c = 5 ∨ c = 6 ∨ c = 7 ∨ c = 8 ∨ c = 9 := by omega
/-- the tables' numbers, as they must be found -/
def numsOk (es : Array DictEntry) : Bool := (List.range 9).all fun i => match findBy Value.isInt es (((i + 1 : Nat)) : Int) with
  | some (.int k _) => k == ((ST.numN (i + 1) : Nat) : Int)
  | _ => false
theorem numsOk_at {es : Array DictEntry} (h : numsOk es = true) {c : Nat} (h1 : 1 ≤ c) (h9 : c ≤ 9) : ∃ t, findBy Value.isInt es (c : Int) = some (.int ((ST.numN c : Nat) : Int) t) := by
  obtain ⟨i, rfl⟩ : ∃ i, c = i + 1 := ⟨c - 1, by omega⟩
  have q := List.all_eq_true.mp h i (List.mem_range.mpr (by omega))
  revert q
  show (match findBy Value.isInt es (((i + 1 : Nat)) : Int) with
    | some (.int k _) => k == ((ST.numN (i + 1) : Nat) : Int)
    | _ => false) = true → _
  split
  · intro q
    rename_i k t e
    rw [e]
    exact ⟨t, by rw [of_decide_eq_true (show decide (k = _) = true from by simpa using q)]⟩
  · intro q
    cases q

theorem all_mk {P : Program} {w : World} {K : PySem.W.Frag} {h : Heap} {mg : Str → Option Value} {fa C f0 dD dN dW : Addr} (X : K.In h) (G : h.Ns mainGlobals mg) (hfa : mg "answers" = some (.ref fa))
    {od0 an0 odW : Option Addr} {sl0 slW : Array (Option Value)} {oc0 kV0 dc0 pm0 cd0 ct0  : Value} {esD esN : Array DictEntry} {nD nN nWW : Nat} {vsW : Array Value}
    (a0 : PySem.W.nsIn K mainGlobals "answers" = some (some (.ref f0))) (l0 : K.lookup f0 = some ⟨oc0, od0, .func (PySem.W.fnOf "answers" "answers" (defArgs sAns) (defBody sAns) (defScope sAns) .none kV0 dc0 pm0 an0 cd0 ct0), sl0⟩) (c0 : PySem.W.codeIn K cd0 "answers" = true) (k0 : PySem.W.keepIn K (.ref f0) = true)
    (aC : PySem.W.nsIn K mainGlobals "Graph" = some (some (.ref C)))
    (pg : PySem.W.plainGet K C Str.empty = true) (hd : PySem.W.hasDictIn K C = true) (po : PySem.W.plainOver K C = true) (sa : PySem.W.findIn K (.ref C) "__setattr__" = some (some (.builtin "object.__setattr__"))) (mk : PySem.W.makesIn K C = true) (kc : PySem.W.keepIn K (.ref C) = true)
    (nP : PySem.W.findIn K (.ref C) "places" = some none) (nW : PySem.W.findIn K (.ref C) "ways" = some none)
    (tD : PySem.W.nsIn K mainGlobals "DEEDS" = some (some (.ref dD))) (uD : K.lookup dD = some ⟨.type "dict", none, .dict esD nD, #[]⟩) (vD : keysI esD = true)
    (tN : PySem.W.nsIn K mainGlobals "NUMBERS" = some (some (.ref dN))) (uN : K.lookup dN = some ⟨.type "dict", none, .dict esN nN, #[]⟩) (vN : keysI esN = true) (wN : numsOk esN = true)
    (tW : PySem.W.nsIn K mainGlobals "WITH_ROW" = some (some (.ref dW))) {t1 t2 t3 t4 t5 : Tok} (uW : K.lookup dW = some ⟨.type "tuple", odW, .seq vsW nWW, slW⟩) (zW : vsW = #[.int 1 t1, .int 4 t2, .int 5 t3, .int 8 t4, .int 9 t5])
    (wa : DefX K mg "ways_at" sWaysAt)
    (le : DefX K mg "least_end" sLeast)
    (oe : DefX K mg "other_end" sOther)
    (ro : DefX K mg "row_of" sRowOf)
    (lf : DefX K mg "lesser_first" sLesser)
    (tr : DefX K mg "tree_of_row" sTreeRow)
    (aa : DefX K mg "all_apart" sApart)
    (me : DefX K mg "merged" sMerged)
    (mb : DefX K mg "merged_by" sMergedBy)
    (rs : DefX K mg "rows_of" sRowsOf)
    (tb : DefX K mg "taken_behind" sTaken)
    (rm : DefX K mg "row_more" sRowMore)
    (so : DefX K mg "sum_of_orders" sSum)
    (tc : DefX K mg "tree_count" sTreeCount)
    (sw : DefX K mg "some_ways" sSome)
    (mw : DefX K mg "many_with" sManyWith)
    (mt : DefX K mg "many_trees" sManyTrees)
    (tf : DefX K mg "tree_of" sTreeOf)
    (nf : DefX K mg "number_of" sNumberOf)
    (ar : DefX K mg "are_rising" sRising)
    (sp : DefX K mg "spans" sSpans)
    (it : DefX K mg "is_tree" sIsTree)
    (pr : DefX K mg "pairs_of" sPairs)
    (ap : DefX K mg "are_places" sPlaces)
    (co : DefX K mg "common" sCommon)
    (lo : DefX K mg "lowest" sLowest)
    (to : DefX K mg "told_row" sToldRow)
    (tt : DefX K mg "told_tree" sToldTree)
    (m0 : MethX K C "__init__" "Graph.__init__" sInit)
    (m1 : MethX K C "begin" "Graph.begin" sBegin)
    (m2 : MethX K C "many" "Graph.many" sMany)
    (m3 : MethX K C "told_count" "Graph.told_count" sToldCount)
    (m4 : MethX K C "told_make" "Graph.told_make" sToldMake)
    (m5 : MethX K C "told_number" "Graph.told_number" sToldNumber)
    (m6 : MethX K C "told_next" "Graph.told_next" sToldNext)
    (m7 : MethX K C "told_list" "Graph.told_list" sToldList)
    (m8 : MethX K C "told_share" "Graph.told_share" sToldShare)
    (q1 : DeedX K esD 1 "do_begin" sDo1)
    (q2 : DeedX K esD 2 "do_count" sDo2)
    (q3 : DeedX K esD 3 "do_make" sDo3)
    (q4 : DeedX K esD 4 "do_number" sDo4)
    (q5 : DeedX K esD 5 "do_next" sDo5)
    (q6 : DeedX K esD 6 "do_list" sDo6)
    (q7 : DeedX K esD 7 "do_share" sDo7)
    (q8 : DeedX K esD 8 "do_to_row" sDo8)
    (q9 : DeedX K esD 9 "do_of_row" sDo9)
    {tWRONG : Tok} (xWRONG : PySem.W.nsIn K mainGlobals "WRONG" = some (some (.int (-1) tWRONG)))
    {tNO_WAY : Tok} (xNO_WAY : PySem.W.nsIn K mainGlobals "NO_WAY" = some (some (.int (-2) tNO_WAY)))
    {tNONE_SUCH : Tok} (xNONE_SUCH : PySem.W.nsIn K mainGlobals "NONE_SUCH" = some (some (.int (-3) tNONE_SUCH)))
    {tNO_TREE : Tok} (xNO_TREE : PySem.W.nsIn K mainGlobals "NO_TREE" = some (some (.int (-4) tNO_TREE)))
    {tTOO_MANY : Tok} (xTOO_MANY : PySem.W.nsIn K mainGlobals "TOO_MANY" = some (some (.int (-5) tTOO_MANY)))
    {tLAST : Tok} (xLAST : PySem.W.nsIn K mainGlobals "LAST" = some (some (.int (-6) tLAST)))
    {tMOST_PLACES : Tok} (xMOST_PLACES : PySem.W.nsIn K mainGlobals "MOST_PLACES" = some (some (.int (9) tMOST_PLACES)))
    {tMOST_WAYS : Tok} (xMOST_WAYS : PySem.W.nsIn K mainGlobals "MOST_WAYS" = some (some (.int (20) tMOST_WAYS)))
    {tMOST_LISTED : Tok} (xMOST_LISTED : PySem.W.nsIn K mainGlobals "MOST_LISTED" = some (some (.int (100) tMOST_LISTED)))
    (ylen : PySem.W.nsIn K mainGlobals "len" = some none)
    (yrange : PySem.W.nsIn K mainGlobals "range" = some none)
    (ymin : PySem.W.nsIn K mainGlobals "min" = some none)
    (ymax : PySem.W.nsIn K mainGlobals "max" = some none)
    (yint : PySem.W.nsIn K mainGlobals "int" = some none)
    (ylist : PySem.W.nsIn K mainGlobals "list" = some none)
    (yenumerate : PySem.W.nsIn K mainGlobals "enumerate" = some none)
    (ysorted : PySem.W.nsIn K mainGlobals "sorted" = some none)
    (yzip : PySem.W.nsIn K mainGlobals "zip" = some none)
    (yall : PySem.W.nsIn K mainGlobals "all" = some none)
    : ∃ fd : FuncData, (∀ (s : Shared) (us : List Value), us.length = (["calls"] : List Str).length → BindsTo s fd ⟨us, []⟩ ((["calls"] : List Str).zip us)) ∧ ∀ base : Heap, K.In base → base.Ns mainGlobals mg → FnOk P w K mg base CX0 10 fa fd ["calls"] (spAns K) := by
  have e := hfa.symm.trans (PySem.W.mg_of X G a0)
  cases e
  have F0 := fun_mk (st := sAns) l0 c0 k0
  refine ⟨PySem.W.fnOf "answers" "answers" (defArgs sAns) (defBody sAns) (defScope sAns) .none kV0 dc0 pm0 an0 cd0 ct0, fun s us hu => match us, hu with | [_], _ => .of_eq rfl, fun base _ _ => ?_⟩
  have T : Txt K C := ⟨⟨pg, hd, po, sa⟩, nP, nW⟩
  have N : Cons mg := ⟨⟨_, PySem.W.mg_of X G xWRONG⟩, ⟨_, PySem.W.mg_of X G xNO_WAY⟩, ⟨_, PySem.W.mg_of X G xNONE_SUCH⟩, ⟨_, PySem.W.mg_of X G xNO_TREE⟩, ⟨_, PySem.W.mg_of X G xTOO_MANY⟩, ⟨_, PySem.W.mg_of X G xLAST⟩, ⟨_, PySem.W.mg_of X G xMOST_PLACES⟩, ⟨_, PySem.W.mg_of X G xMOST_WAYS⟩, ⟨_, PySem.W.mg_of X G xMOST_LISTED⟩⟩
  have glen : mg "len" = none := PySem.W.mg_none_of X G ylen
  have grange : mg "range" = none := PySem.W.mg_none_of X G yrange
  have gmin : mg "min" = none := PySem.W.mg_none_of X G ymin
  have gmax : mg "max" = none := PySem.W.mg_none_of X G ymax
  have gint : mg "int" = none := PySem.W.mg_none_of X G yint
  have glist : mg "list" = none := PySem.W.mg_none_of X G ylist
  have genumerate : mg "enumerate" = none := PySem.W.mg_none_of X G yenumerate
  have gsorted : mg "sorted" = none := PySem.W.mg_none_of X G ysorted
  have gzip : mg "zip" = none := PySem.W.mg_none_of X G yzip
  have gall : mg "all" = none := PySem.W.mg_none_of X G yall
  obtain ⟨f_wa, d_wa, F_wa, g_wa⟩ := wa
  have b_wa := F_wa.binds (ps := ["ways", "place"]) fun _ _ _ _ _ _ us hl => match us, hl with | [_, _], _ => rfl
  obtain ⟨f_le, d_le, F_le, g_le⟩ := le
  have b_le := F_le.binds (ps := ["places", "ways"]) fun _ _ _ _ _ _ us hl => match us, hl with | [_, _], _ => rfl
  obtain ⟨f_oe, d_oe, F_oe, g_oe⟩ := oe
  have b_oe := F_oe.binds (ps := ["way", "place"]) fun _ _ _ _ _ _ us hl => match us, hl with | [_, _], _ => rfl
  obtain ⟨f_ro, d_ro, F_ro, g_ro⟩ := ro
  have b_ro := F_ro.binds (ps := ["places", "ways"]) fun _ _ _ _ _ _ us hl => match us, hl with | [_, _], _ => rfl
  obtain ⟨f_lf, d_lf, F_lf, g_lf⟩ := lf
  have b_lf := F_lf.binds (ps := ["one", "other"]) fun _ _ _ _ _ _ us hl => match us, hl with | [_, _], _ => rfl
  obtain ⟨f_tr, d_tr, F_tr, g_tr⟩ := tr
  have b_tr := F_tr.binds (ps := ["places", "row"]) fun _ _ _ _ _ _ us hl => match us, hl with | [_, _], _ => rfl
  obtain ⟨f_aa, d_aa, F_aa, g_aa⟩ := aa
  have b_aa := F_aa.binds (ps := ["many"]) fun _ _ _ _ _ _ us hl => match us, hl with | [_], _ => rfl
  obtain ⟨f_me, d_me, F_me, g_me⟩ := me
  have b_me := F_me.binds (ps := ["groups", "one", "other"]) fun _ _ _ _ _ _ us hl => match us, hl with | [_, _, _], _ => rfl
  obtain ⟨f_mb, d_mb, F_mb, g_mb⟩ := mb
  have b_mb := F_mb.binds (ps := ["groups", "ways"]) fun _ _ _ _ _ _ us hl => match us, hl with | [_, _], _ => rfl
  obtain ⟨f_rs, d_rs, F_rs, g_rs⟩ := rs
  have b_rs := F_rs.binds (ps := ["groups", "ways"]) fun _ _ _ _ _ _ us hl => match us, hl with | [_, _], _ => rfl
  obtain ⟨f_tb, d_tb, F_tb, g_tb⟩ := tb
  have b_tb := F_tb.binds (ps := ["used", "column", "many"]) fun _ _ _ _ _ _ us hl => match us, hl with | [_, _, _], _ => rfl
  obtain ⟨f_rm, d_rm, F_rm, g_rm⟩ := rm
  have b_rm := F_rm.binds (ps := ["sums", "row"]) fun _ _ _ _ _ _ us hl => match us, hl with | [_, _], _ => rfl
  obtain ⟨f_so, d_so, F_so, g_so⟩ := so
  have b_so := F_so.binds (ps := ["rows"]) fun _ _ _ _ _ _ us hl => match us, hl with | [_], _ => rfl
  obtain ⟨f_tc, d_tc, F_tc, g_tc⟩ := tc
  have b_tc := F_tc.binds (ps := ["groups", "ways"]) fun _ _ _ _ _ _ us hl => match us, hl with | [_, _], _ => rfl
  obtain ⟨f_sw, d_sw, F_sw, g_sw⟩ := sw
  have b_sw := F_sw.binds (ps := ["ways", "numbers"]) fun _ _ _ _ _ _ us hl => match us, hl with | [_, _], _ => rfl
  obtain ⟨f_mw, d_mw, F_mw, g_mw⟩ := mw
  have b_mw := F_mw.binds (ps := ["places", "ways", "numbers", "begin"]) fun _ _ _ _ _ _ us hl => match us, hl with | [_, _, _, _], _ => rfl
  obtain ⟨f_mt, d_mt, F_mt, g_mt⟩ := mt
  have b_mt := F_mt.binds (ps := ["places", "ways"]) fun _ _ _ _ _ _ us hl => match us, hl with | [_, _], _ => rfl
  obtain ⟨f_tf, d_tf, F_tf, g_tf⟩ := tf
  have b_tf := F_tf.binds (ps := ["places", "ways", "k"]) fun _ _ _ _ _ _ us hl => match us, hl with | [_, _, _], _ => rfl
  obtain ⟨f_nf, d_nf, F_nf, g_nf⟩ := nf
  have b_nf := F_nf.binds (ps := ["places", "ways", "tree"]) fun _ _ _ _ _ _ us hl => match us, hl with | [_, _, _], _ => rfl
  obtain ⟨f_ar, d_ar, F_ar, g_ar⟩ := ar
  have b_ar := F_ar.binds (ps := ["numbers"]) fun _ _ _ _ _ _ us hl => match us, hl with | [_], _ => rfl
  obtain ⟨f_sp, d_sp, F_sp, g_sp⟩ := sp
  have b_sp := F_sp.binds (ps := ["places", "ways"]) fun _ _ _ _ _ _ us hl => match us, hl with | [_, _], _ => rfl
  obtain ⟨f_it, d_it, F_it, g_it⟩ := it
  have b_it := F_it.binds (ps := ["places", "ways", "numbers"]) fun _ _ _ _ _ _ us hl => match us, hl with | [_, _, _], _ => rfl
  obtain ⟨f_pr, d_pr, F_pr, g_pr⟩ := pr
  have b_pr := F_pr.binds (ps := ["numbers"]) fun _ _ _ _ _ _ us hl => match us, hl with | [_], _ => rfl
  obtain ⟨f_ap, d_ap, F_ap, g_ap⟩ := ap
  have b_ap := F_ap.binds (ps := ["numbers", "many"]) fun _ _ _ _ _ _ us hl => match us, hl with | [_, _], _ => rfl
  obtain ⟨f_co, d_co, F_co, g_co⟩ := co
  have b_co := F_co.binds (ps := ["one", "other"]) fun _ _ _ _ _ _ us hl => match us, hl with | [_, _], _ => rfl
  obtain ⟨f_lo, d_lo, F_lo, g_lo⟩ := lo
  have b_lo := F_lo.binds (ps := ["top", "under"]) fun _ _ _ _ _ _ us hl => match us, hl with | [_, _], _ => rfl
  obtain ⟨f_to, d_to, F_to, g_to⟩ := to
  have b_to := F_to.binds (ps := ["n", "numbers"]) fun _ _ _ _ _ _ us hl => match us, hl with | [_, _], _ => rfl
  obtain ⟨f_tt, d_tt, F_tt, g_tt⟩ := tt
  have b_tt := F_tt.binds (ps := ["n", "row"]) fun _ _ _ _ _ _ us hl => match us, hl with | [_, _], _ => rfl
  obtain ⟨f_m0, d_m0, F_m0, h_m0⟩ := m0
  have b_m0 := F_m0.binds (ps := ["self"]) fun _ _ _ _ _ _ us hl => match us, hl with | [_], _ => rfl
  obtain ⟨f_m1, d_m1, F_m1, h_m1⟩ := m1
  have b_m1 := F_m1.binds (ps := ["self", "n", "numbers"]) fun _ _ _ _ _ _ us hl => match us, hl with | [_, _, _], _ => rfl
  obtain ⟨f_m2, d_m2, F_m2, h_m2⟩ := m2
  have b_m2 := F_m2.binds (ps := ["self"]) fun _ _ _ _ _ _ us hl => match us, hl with | [_], _ => rfl
  obtain ⟨f_m3, d_m3, F_m3, h_m3⟩ := m3
  have b_m3 := F_m3.binds (ps := ["self"]) fun _ _ _ _ _ _ us hl => match us, hl with | [_], _ => rfl
  obtain ⟨f_m4, d_m4, F_m4, h_m4⟩ := m4
  have b_m4 := F_m4.binds (ps := ["self", "k"]) fun _ _ _ _ _ _ us hl => match us, hl with | [_, _], _ => rfl
  obtain ⟨f_m5, d_m5, F_m5, h_m5⟩ := m5
  have b_m5 := F_m5.binds (ps := ["self", "tree"]) fun _ _ _ _ _ _ us hl => match us, hl with | [_, _], _ => rfl
  obtain ⟨f_m6, d_m6, F_m6, h_m6⟩ := m6
  have b_m6 := F_m6.binds (ps := ["self", "tree"]) fun _ _ _ _ _ _ us hl => match us, hl with | [_, _], _ => rfl
  obtain ⟨f_m7, d_m7, F_m7, h_m7⟩ := m7
  have b_m7 := F_m7.binds (ps := ["self"]) fun _ _ _ _ _ _ us hl => match us, hl with | [_], _ => rfl
  obtain ⟨f_m8, d_m8, F_m8, h_m8⟩ := m8
  have b_m8 := F_m8.binds (ps := ["self", "way"]) fun _ _ _ _ _ _ us hl => match us, hl with | [_, _], _ => rfl
  obtain ⟨f_q1, d_q1, F_q1, h_q1⟩ := q1
  have b_q1 := F_q1.binds (ps := ["graph", "numbers", "row"]) fun _ _ _ _ _ _ us hl => match us, hl with | [_, _, _], _ => rfl
  obtain ⟨f_q2, d_q2, F_q2, h_q2⟩ := q2
  have b_q2 := F_q2.binds (ps := ["graph", "numbers", "row"]) fun _ _ _ _ _ _ us hl => match us, hl with | [_, _, _], _ => rfl
  obtain ⟨f_q3, d_q3, F_q3, h_q3⟩ := q3
  have b_q3 := F_q3.binds (ps := ["graph", "numbers", "row"]) fun _ _ _ _ _ _ us hl => match us, hl with | [_, _, _], _ => rfl
  obtain ⟨f_q4, d_q4, F_q4, h_q4⟩ := q4
  have b_q4 := F_q4.binds (ps := ["graph", "numbers", "row"]) fun _ _ _ _ _ _ us hl => match us, hl with | [_, _, _], _ => rfl
  obtain ⟨f_q5, d_q5, F_q5, h_q5⟩ := q5
  have b_q5 := F_q5.binds (ps := ["graph", "numbers", "row"]) fun _ _ _ _ _ _ us hl => match us, hl with | [_, _, _], _ => rfl
  obtain ⟨f_q6, d_q6, F_q6, h_q6⟩ := q6
  have b_q6 := F_q6.binds (ps := ["graph", "numbers", "row"]) fun _ _ _ _ _ _ us hl => match us, hl with | [_, _, _], _ => rfl
  obtain ⟨f_q7, d_q7, F_q7, h_q7⟩ := q7
  have b_q7 := F_q7.binds (ps := ["graph", "numbers", "row"]) fun _ _ _ _ _ _ us hl => match us, hl with | [_, _, _], _ => rfl
  obtain ⟨f_q8, d_q8, F_q8, h_q8⟩ := q8
  have b_q8 := F_q8.binds (ps := ["graph", "numbers", "row"]) fun _ _ _ _ _ _ us hl => match us, hl with | [_, _, _], _ => rfl
  obtain ⟨f_q9, d_q9, F_q9, h_q9⟩ := q9
  have b_q9 := F_q9.binds (ps := ["graph", "numbers", "row"]) fun _ _ _ _ _ _ us hl => match us, hl with | [_, _, _], _ => rfl
  have cnt : Cnt K mg _ _ _ _ _ _ _ _ _ _ _ _ _ _ _ _ _ _ := ⟨F_me, b_me, g_me, F_mb, b_mb, g_mb, F_rs, b_rs, g_rs, F_tb, b_tb, g_tb, F_rm, b_rm, g_rm, F_so, b_so, g_so, F_tc, b_tc, g_tc, F_aa, b_aa, g_aa, F_sw, b_sw, g_sw, glen, grange, gmin, gmax, gint, glist⟩
  have rws : Rws K mg _ _ _ _ _ _ _ _ := ⟨F_wa, b_wa, g_wa, F_le, b_le, g_le, F_oe, b_oe, g_oe, F_ro, b_ro, g_ro⟩
  have chk : Chk K mg _ _ _ _ _ _ := ⟨F_pr, b_pr, g_pr, F_ap, b_ap, g_ap, F_sp, b_sp, g_sp, gall⟩
  have trw : Trw K mg _ _ _ _ := ⟨F_lf, b_lf, g_lf, F_tr, b_tr, g_tr, genumerate, gsorted⟩
  have GX : FnOk P w K mg base CX0 5 f_mw d_mw ["places", "ways", "numbers", "begin"] (spManyWith K) := ok_manyWith F_mw cnt
  have Gmt : FnOk P w K mg base CX0 6 f_mt d_mt ["places", "ways"] (spManyTrees K) := ok_manyTrees F_mt F_mw b_mw g_mw GX
  have Gtf : FnOk P w K mg base CX0 6 f_tf d_tf ["places", "ways", "k"] (spTreeOf K) := ok_treeOf F_tf F_mw b_mw g_mw GX glen grange
  have Gnf : FnOk P w K mg base CX0 6 f_nf d_nf ["places", "ways", "tree"] (spNumberOf K) := ok_numberOf F_nf F_mw b_mw g_mw GX glen grange
  have Git : FnOk P w K mg base CX0 4 f_it d_it ["places", "ways", "numbers"] (spIsTree K) := ok_isTree F_it cnt F_ar b_ar g_ar F_sp b_sp g_sp gzip gall
  have Glo : FnOk P w K mg base CX0 2 f_lo d_lo ["top", "under"] spLowest := ok_lowest F_lo F_co b_co g_co
  have Gm : FnOk P w K mg base CX0 7 f_m2 d_m2 ["self"] (spMany K C) := ok_many F_m2 T F_mt b_mt g_mt Gmt
  have MMx : MM P w K mg base C f_m2 d_m2 := ⟨h_m2, b_m2, Gm⟩
  have trs : Trs P w K mg base f_mw f_tf f_nf f_it f_lo d_mw d_tf d_nf d_it d_lo := ⟨F_mw.kp, b_mw, g_mw, GX, F_tf.kp, b_tf, g_tf, Gtf, F_nf.kp, b_nf, g_nf, Gnf, F_it.kp, b_it, g_it, Git, F_lo.kp, b_lo, g_lo, Glo, glen, grange⟩
  have D1 : FnOk P w K mg base CX0 9 f_q1 d_q1 ["graph", "numbers", "row"] (spDo K C 1) := ok_do1 F_q1 T h_m1 b_m1 (ok_begin F_m1 T glen grange chk N)
  have D2 : FnOk P w K mg base CX0 9 f_q2 d_q2 ["graph", "numbers", "row"] (spDo K C 2) := ok_do2 F_q2 T h_m3 b_m3 (ok_toldCount F_m3 T MMx)
  have D3 : FnOk P w K mg base CX0 9 f_q3 d_q3 ["graph", "numbers", "row"] (spDo K C 3) := ok_do3 F_q3 T h_m4 b_m4 (ok_toldMake F_m4 T MMx trs N)
  have D4 : FnOk P w K mg base CX0 9 f_q4 d_q4 ["graph", "numbers", "row"] (spDo K C 4) := ok_do4 F_q4 T h_m5 b_m5 (ok_toldNumber F_m5 T trs N)
  have D5 : FnOk P w K mg base CX0 9 f_q5 d_q5 ["graph", "numbers", "row"] (spDo K C 5) := ok_do5 F_q5 T h_m6 b_m6 (ok_toldNext F_m6 T MMx trs N)
  have D6 : FnOk P w K mg base CX0 9 f_q6 d_q6 ["graph", "numbers", "row"] (spDo K C 6) := ok_do6 F_q6 T h_m7 b_m7 (ok_toldList F_m7 T MMx trs N)
  have D7 : FnOk P w K mg base CX0 9 f_q7 d_q7 ["graph", "numbers", "row"] (spDo K C 7) := ok_do7 F_q7 T h_m8 b_m8 (ok_toldShare F_m8 T MMx trs N)
  have D8 : FnOk P w K mg base CX0 9 f_q8 d_q8 ["graph", "numbers", "row"] (spDo K C 8) := ok_do8 F_q8 F_to b_to g_to (ok_toldRow F_to cnt rws chk N)
  have D9 : FnOk P w K mg base CX0 9 f_q9 d_q9 ["graph", "numbers", "row"] (spDo K C 9) := ok_do9 F_q9 F_tt b_tt g_tt (ok_toldTree F_tt cnt trw chk N)
  refine ok_ans F0 T (PySem.W.mg_of X G aC) ⟨mk, h_m0.at_, h_m0.fn, kc⟩ F_m0 b_m0 (dD := dD) (dN := dN) (dW := dW) ⟨PySem.W.mg_of X G tD, PySem.W.mg_of X G tN, PySem.W.mg_of X G tW, fun c h1 h9 => ?_, fun c h1 h9 => ?_, fun H => ?_⟩ glen
  · obtain ⟨t, ht⟩ := numsOk_at wN h1 h9
    exact ⟨esN, nN, _, uN, vN, ht, ⟨t, rfl⟩⟩
  · rcases nine h1 h9 with e | e | e | e | e | e | e | e | e <;> subst e
    · exact ⟨f_q1, ⟨esD, nD, _, uD, vD, h_q1, rfl⟩, ⟨⟨d_q1, _, D1, F_q1.kp, b_q1⟩⟩⟩
    · exact ⟨f_q2, ⟨esD, nD, _, uD, vD, h_q2, rfl⟩, ⟨⟨d_q2, _, D2, F_q2.kp, b_q2⟩⟩⟩
    · exact ⟨f_q3, ⟨esD, nD, _, uD, vD, h_q3, rfl⟩, ⟨⟨d_q3, _, D3, F_q3.kp, b_q3⟩⟩⟩
    · exact ⟨f_q4, ⟨esD, nD, _, uD, vD, h_q4, rfl⟩, ⟨⟨d_q4, _, D4, F_q4.kp, b_q4⟩⟩⟩
    · exact ⟨f_q5, ⟨esD, nD, _, uD, vD, h_q5, rfl⟩, ⟨⟨d_q5, _, D5, F_q5.kp, b_q5⟩⟩⟩
    · exact ⟨f_q6, ⟨esD, nD, _, uD, vD, h_q6, rfl⟩, ⟨⟨d_q6, _, D6, F_q6.kp, b_q6⟩⟩⟩
    · exact ⟨f_q7, ⟨esD, nD, _, uD, vD, h_q7, rfl⟩, ⟨⟨d_q7, _, D7, F_q7.kp, b_q7⟩⟩⟩
    · exact ⟨f_q8, ⟨esD, nD, _, uD, vD, h_q8, rfl⟩, ⟨⟨d_q8, _, D8, F_q8.kp, b_q8⟩⟩⟩
    · exact ⟨f_q9, ⟨esD, nD, _, uD, vD, h_q9, rfl⟩, ⟨⟨d_q9, _, D9, F_q9.kp, b_q9⟩⟩⟩
  · subst zW
    exact .inr ⟨_, _, nWW, uW, rfl, rfl, (by show 5 ≤ sizeLine; decide), .cons ⟨t1, rfl⟩ (.cons ⟨t2, rfl⟩ (.cons ⟨t3, rfl⟩ (.cons ⟨t4, rfl⟩ (.cons ⟨t5, rfl⟩ .nil))))⟩
end
end SP
end
open PySem PySem.W PyProof.Rows
set_option maxRecDepth 100000 in
set_option maxHeartbeats 8000000 in
theorem PySem.Challenge.cw_spanningtrees_s01_answers_holds : PySem.Challenge.rw_spanningtrees_s01_answers.Holds := by
  w_on; k_headS; (case hw => exact ⟨[.list [.int 2]], by decide +kernel, by decide +kernel⟩)
  k_fillS
  refine L2.walk_specK (r := PySem.Challenge.rw_spanningtrees_s01_answers) (k := 10) (CX := L2.CX0) (ps := ["calls"]) (sp := SP.spAns) (by decide +kernel) rfl rfl ⟨rfl, by decide, by decide⟩ (fun w h Y => PySem.W.kIn_of Y) ?F ?S (fun _ _ _ _ z => z)
  case F =>
    intro w mg fa h Y KX G hmg
    refine' SP.all_mk KX G hmg ?a0 ?l0 ?c0 ?k0 ?aC ?pg ?hd ?po ?sa ?mk ?kc ?nP ?nW ?tD ?uD ?vD ?tN ?uN ?vN ?wN ?tW ?uW ?zW (SP.defX KX G ?awa ?lwa ?cwa ?kwa) (SP.defX KX G ?ale ?lle ?cle ?kle) (SP.defX KX G ?aoe ?loe ?coe ?koe) (SP.defX KX G ?aro ?lro ?cro ?kro) (SP.defX KX G ?alf ?llf ?clf ?klf) (SP.defX KX G ?atr ?ltr ?ctr ?ktr) (SP.defX KX G ?aaa ?laa ?caa ?kaa) (SP.defX KX G ?ame ?lme ?cme ?kme) (SP.defX KX G ?amb ?lmb ?cmb ?kmb) (SP.defX KX G ?ars ?lrs ?crs ?krs) (SP.defX KX G ?atb ?ltb ?ctb ?ktb) (SP.defX KX G ?arm ?lrm ?crm ?krm) (SP.defX KX G ?aso ?lso ?cso ?kso) (SP.defX KX G ?atc ?ltc ?ctc ?ktc) (SP.defX KX G ?asw ?lsw ?csw ?ksw) (SP.defX KX G ?amw ?lmw ?cmw ?kmw) (SP.defX KX G ?amt ?lmt ?cmt ?kmt) (SP.defX KX G ?atf ?ltf ?ctf ?ktf) (SP.defX KX G ?anf ?lnf ?cnf ?knf) (SP.defX KX G ?aar ?lar ?car ?kar) (SP.defX KX G ?asp ?lsp ?csp ?ksp) (SP.defX KX G ?ait ?lit ?cit ?kit) (SP.defX KX G ?apr ?lpr ?cpr ?kpr) (SP.defX KX G ?aap ?lap ?cap ?kap) (SP.defX KX G ?aco ?lco ?cco ?kco) (SP.defX KX G ?alo ?llo ?clo ?klo) (SP.defX KX G ?ato ?lto ?cto ?kto) (SP.defX KX G ?att ?ltt ?ctt ?ktt) (SP.methX ?am0 ?im0 ?lm0 ?cm0 ?km0) (SP.methX ?am1 ?im1 ?lm1 ?cm1 ?km1) (SP.methX ?am2 ?im2 ?lm2 ?cm2 ?km2) (SP.methX ?am3 ?im3 ?lm3 ?cm3 ?km3) (SP.methX ?am4 ?im4 ?lm4 ?cm4 ?km4) (SP.methX ?am5 ?im5 ?lm5 ?cm5 ?km5) (SP.methX ?am6 ?im6 ?lm6 ?cm6 ?km6) (SP.methX ?am7 ?im7 ?lm7 ?cm7 ?km7) (SP.methX ?am8 ?im8 ?lm8 ?cm8 ?km8) (SP.deedX ?aq1 ?lq1 ?cq1 ?kq1) (SP.deedX ?aq2 ?lq2 ?cq2 ?kq2) (SP.deedX ?aq3 ?lq3 ?cq3 ?kq3) (SP.deedX ?aq4 ?lq4 ?cq4 ?kq4) (SP.deedX ?aq5 ?lq5 ?cq5 ?kq5) (SP.deedX ?aq6 ?lq6 ?cq6 ?kq6) (SP.deedX ?aq7 ?lq7 ?cq7 ?kq7) (SP.deedX ?aq8 ?lq8 ?cq8 ?kq8) (SP.deedX ?aq9 ?lq9 ?cq9 ?kq9) ?xWRONG ?xNO_WAY ?xNONE_SUCH ?xNO_TREE ?xTOO_MANY ?xLAST ?xMOST_PLACES ?xMOST_WAYS ?xMOST_LISTED ?ylen ?yrange ?ymin ?ymax ?yint ?ylist ?yenumerate ?ysorted ?yzip ?yall
    (case a0 => k_is); (case l0 => k_is); (case c0 => k_is); (case k0 => k_is); (case aC => k_is)
    (case pg => k_is); (case hd => k_is); (case po => k_is); (case sa => k_is); (case mk => k_is)
    (case kc => k_is); (case nP => k_is); (case nW => k_is); (case tD => k_is); (case uD => k_is)
    (case vD => rfl); (case tN => k_is); (case uN => k_is); (case vN => rfl); (case wN => rfl)
    (case tW => k_is); (case uW => k_is); (case zW => rfl); (case awa => k_is); (case lwa => k_is)
    (case cwa => k_is); (case kwa => k_is); (case ale => k_is); (case lle => k_is); (case cle => k_is)
    (case kle => k_is); (case aoe => k_is); (case loe => k_is); (case coe => k_is); (case koe => k_is)
    (case aro => k_is); (case lro => k_is); (case cro => k_is); (case kro => k_is); (case alf => k_is)
    (case llf => k_is); (case clf => k_is); (case klf => k_is); (case atr => k_is); (case ltr => k_is)
    (case ctr => k_is); (case ktr => k_is); (case aaa => k_is); (case laa => k_is); (case caa => k_is)
    (case kaa => k_is); (case ame => k_is); (case lme => k_is); (case cme => k_is); (case kme => k_is)
    (case amb => k_is); (case lmb => k_is); (case cmb => k_is); (case kmb => k_is); (case ars => k_is)
    (case lrs => k_is); (case crs => k_is); (case krs => k_is); (case atb => k_is); (case ltb => k_is)
    (case ctb => k_is); (case ktb => k_is); (case arm => k_is); (case lrm => k_is); (case crm => k_is)
    (case krm => k_is); (case aso => k_is); (case lso => k_is); (case cso => k_is); (case kso => k_is)
    (case atc => k_is); (case ltc => k_is); (case ctc => k_is); (case ktc => k_is); (case asw => k_is)
    (case lsw => k_is); (case csw => k_is); (case ksw => k_is); (case amw => k_is); (case lmw => k_is)
    (case cmw => k_is); (case kmw => k_is); (case amt => k_is); (case lmt => k_is); (case cmt => k_is)
    (case kmt => k_is); (case atf => k_is); (case ltf => k_is); (case ctf => k_is); (case ktf => k_is)
    (case anf => k_is); (case lnf => k_is); (case cnf => k_is); (case knf => k_is); (case aar => k_is)
    (case lar => k_is); (case car => k_is); (case kar => k_is); (case asp => k_is); (case lsp => k_is)
    (case csp => k_is); (case ksp => k_is); (case ait => k_is); (case lit => k_is); (case cit => k_is)
    (case kit => k_is); (case apr => k_is); (case lpr => k_is); (case cpr => k_is); (case kpr => k_is)
    (case aap => k_is); (case lap => k_is); (case cap => k_is); (case kap => k_is); (case aco => k_is)
    (case lco => k_is); (case cco => k_is); (case kco => k_is); (case alo => k_is); (case llo => k_is)
    (case clo => k_is); (case klo => k_is); (case ato => k_is); (case lto => k_is); (case cto => k_is)
    (case kto => k_is); (case att => k_is); (case ltt => k_is); (case ctt => k_is); (case ktt => k_is)
    (case am0 => k_is); (case im0 => k_is); (case lm0 => k_is); (case cm0 => k_is); (case km0 => k_is)
    (case am1 => k_is); (case im1 => k_is); (case lm1 => k_is); (case cm1 => k_is); (case km1 => k_is)
    (case am2 => k_is); (case im2 => k_is); (case lm2 => k_is); (case cm2 => k_is); (case km2 => k_is)
    (case am3 => k_is); (case im3 => k_is); (case lm3 => k_is); (case cm3 => k_is); (case km3 => k_is)
    (case am4 => k_is); (case im4 => k_is); (case lm4 => k_is); (case cm4 => k_is); (case km4 => k_is)
    (case am5 => k_is); (case im5 => k_is); (case lm5 => k_is); (case cm5 => k_is); (case km5 => k_is)
    (case am6 => k_is); (case im6 => k_is); (case lm6 => k_is); (case cm6 => k_is); (case km6 => k_is)
    (case am7 => k_is); (case im7 => k_is); (case lm7 => k_is); (case cm7 => k_is); (case km7 => k_is)
    (case am8 => k_is); (case im8 => k_is); (case lm8 => k_is); (case cm8 => k_is); (case km8 => k_is)
    (case aq1 => rfl); (case lq1 => k_is); (case cq1 => k_is); (case kq1 => k_is); (case aq2 => rfl)
    (case lq2 => k_is); (case cq2 => k_is); (case kq2 => k_is); (case aq3 => rfl); (case lq3 => k_is)
    (case cq3 => k_is); (case kq3 => k_is); (case aq4 => rfl); (case lq4 => k_is); (case cq4 => k_is)
    (case kq4 => k_is); (case aq5 => rfl); (case lq5 => k_is); (case cq5 => k_is); (case kq5 => k_is)
    (case aq6 => rfl); (case lq6 => k_is); (case cq6 => k_is); (case kq6 => k_is); (case aq7 => rfl)
    (case lq7 => k_is); (case cq7 => k_is); (case kq7 => k_is); (case aq8 => rfl); (case lq8 => k_is)
    (case cq8 => k_is); (case kq8 => k_is); (case aq9 => rfl); (case lq9 => k_is); (case cq9 => k_is)
    (case kq9 => k_is); (case xWRONG => k_is); (case xNO_WAY => k_is); (case xNONE_SUCH => k_is); (case xNO_TREE => k_is)
    (case xTOO_MANY => k_is); (case xLAST => k_is); (case xMOST_PLACES => k_is); (case xMOST_WAYS => k_is); (case xMOST_LISTED => k_is)
    (case ylen => k_is); (case yrange => k_is); (case ymin => k_is); (case ymax => k_is); (case yint => k_is)
    (case ylist => k_is); (case yenumerate => k_is); (case ysorted => k_is); (case yzip => k_is); (case yall => k_is)
  case S =>
    intro K H xs a hO hwi hask hx
    cases hx with
    | cons h1 h2 =>
      cases h2
      cases h1 with
      | lst hs ha =>
        have e := L2.ints_dw a.1 _ ha
        subst e
        have q : ((Codec.inLen 0 16000 a.1 && a.1.all (Codec.inInt 0 18446744073709551615)) && true) = true := hwi
        rw [Bool.and_eq_true, Bool.and_eq_true] at q
        have hp : ∀ x ∈ a.1, 0 ≤ x := fun x hx => (Codec.inInt_iff.mp (List.all_eq_true.mp q.1.2 x hx)).1
        exact ⟨_, a.1, rfl, hs, (Codec.inNat_iff.mp q.1.1).2, hp, hask, fun H' p hp => .lst (L2.SqL.of hp) (L2.dw_ints _)⟩
#print axioms PySem.Challenge.cw_spanningtrees_s01_answers_holds
