import PyProof.Rows.All
import Wide.All
import OpenK.AllK
import Wide.FinOn
import KE.KStateDown
import HandS.ForMost
import HandS.ForExc
import HandS.Flow
import HandS.Style
import HandS.Defaults
import HandS.IsInst
import HandS.Property
import HandS.Star
import HandS.TupAny
import HandS.Walk
import HandS.Zip
import HandS.Conv
import HandS.Wide
import HandS.SortInts
import HandS.Head0
import HandS.Head1
import HandS.Head2
import HandS.HeadEnd
import HandS.HeadHook1
import HandS.HeadHook2
import KE.GoesMore
import KE.GoesEnum
import HandS.OwnEq
import HandS.More
import OpenK.KMeth
import KE.KOpsOwn
import PyProof.InstNe
import PyProof.P3In
import PyProof.EqLayable
import KE.KDictPairs
import KE.KDictOf
import KE.KDictSum
import HandS.Exc
import HandS.TryOnly
import HandS.Small
import HandS.Iter
import PySem.Challenge.RW_slackrods_k05_whole_chains_and_sums
set_option Elab.async false
set_option linter.all false
set_option maxRecDepth 100000
set_option maxHeartbeats 4000000
/-! plain mathematics: memories. A memory's places are held as a list, the LAST place first. -/
namespace Mt
def iabs (a : Int) : Int := if a < 0 then -a else a
/-- the place p, moved to upward or downward, is behind b -/
def pas (up : Bool) (p b : Int) : Bool := if up then decide (b ≤ p) else decide (p ≤ b)
/-- what is popped: found (last first), heights -/
def shrink (up : Bool) (p : Int) : List Int → List Int → List Int × List Int
  | a :: b :: r, hs => if pas up p b = true then shrink up p r (hs ++ [iabs (a - b)]) else (a :: b :: r, hs)
  | [a], hs => ([a], hs)
  | [], hs => ([], hs)
def movedR (rs : List Int) (p : Int) : List Int × List Int := match rs with
  | [] => ([p], [])
  | a :: r => if p = a then (a :: r, []) else
    let up := decide (a < p)
    let f := if up = decide ((r.length + 1) % 2 = 0) then r else a :: r
    (p :: (shrink up p f []).1, (shrink up p f []).2)
def followR (rs : List Int) : List Int → List Int × List Int
  | [] => (rs, [])
  | p :: row => ((followR (movedR rs p).1 row).1, (movedR rs p).2 ++ (followR (movedR rs p).1 row).2)
theorem shrink_len (up : Bool) (p : Int) : ∀ (n : Nat) (f hs : List Int), f.length ≤ n → (shrink up p f hs).1.length ≤ f.length ∧ (shrink up p f hs).2.length ≤ hs.length + f.length
  | _, [], hs, _ => by simp [shrink]
  | _, [a], hs, _ => by simp [shrink]
  | 0, a :: b :: r, hs, h => by simp at h
  | n + 1, a :: b :: r, hs, h => by
    unfold shrink
    split
    · have ih := shrink_len up p n r (hs ++ [iabs (a - b)]) (by simp at h; omega)
      simp at ih ⊢
      omega
    · simp
theorem moved_len (rs : List Int) (p : Int) : (movedR rs p).1.length ≤ rs.length + 1 ∧ (movedR rs p).2.length ≤ rs.length := by
  cases rs with
  | nil => simp [movedR]
  | cons a r =>
    unfold movedR
    dsimp only
    split
    · simp
    · split
      · have := shrink_len (decide (a < p)) p r.length r [] (Nat.le_refl _)
        simp at this ⊢; omega
      · have := shrink_len (decide (a < p)) p (a :: r).length (a :: r) [] (Nat.le_refl _)
        simp at this ⊢; omega
theorem moved_ne (rs : List Int) (p : Int) : (movedR rs p).1 ≠ [] := by
  cases rs with
  | nil => simp [movedR]
  | cons a r =>
    unfold movedR
    dsimp only
    split
    · simp
    · simp
theorem moved_head (rs : List Int) (p : Int) : ∃ t, (movedR rs p).1 = p :: t := by
  cases rs with
  | nil => exact ⟨_, rfl⟩
  | cons a r =>
    unfold movedR
    dsimp only
    split
    · rename_i h; exact ⟨r, by rw [h]⟩
    · exact ⟨_, rfl⟩
theorem follow_len : ∀ (row rs : List Int), (followR rs row).1.length ≤ rs.length + row.length
  | [], rs => by simp [followR]
  | p :: row, rs => by
    have h1 := follow_len row (movedR rs p).1
    have h2 := moved_len rs p
    simp [followR]; omega
theorem follow_ne : ∀ (row rs : List Int), rs ≠ [] → (followR rs row).1 ≠ []
  | [], rs, h => by simpa [followR] using h
  | p :: row, rs, h => by
    simp only [followR]
    exact follow_ne row _ (moved_ne rs p)
theorem follow_append : ∀ (a b rs : List Int), followR rs (a ++ b) = ((followR (followR rs a).1 b).1, (followR rs a).2 ++ (followR (followR rs a).1 b).2)
  | [], b, rs => by simp [followR]
  | p :: a, b, rs => by
    simp only [List.cons_append, followR]
    rw [follow_append a b]
    simp
theorem follow_snoc (a : List Int) (p : Int) (rs : List Int) : followR rs (a ++ [p]) = ((movedR (followR rs a).1 p).1, (followR rs a).2 ++ (movedR (followR rs a).1 p).2) := by
  rw [follow_append]; simp [followR]
theorem take_succ' {α : Type} {l : List α} {i : Nat} (h : i < l.length) : l.take (i + 1) = l.take i ++ [l[i]] := by
  rw [List.take_add_one, List.getElem?_eq_getElem h]; rfl
theorem follow_take (rs row : List Int) (i : Nat) (h : i < row.length) : followR rs (row.take (i + 1)) = ((movedR (followR rs (row.take i)).1 row[i]).1, (followR rs (row.take i)).2 ++ (movedR (followR rs (row.take i)).1 row[i]).2) := by
  rw [take_succ' h, follow_snoc]
theorem shrink_cnt (up : Bool) (p : Int) : ∀ (n : Nat) (f hs : List Int), f.length ≤ n → (shrink up p f hs).1.length + 2 * (shrink up p f hs).2.length = f.length + 2 * hs.length
  | _, [], hs, _ => by simp [shrink]
  | _, [a], hs, _ => by simp [shrink]
  | 0, a :: b :: r, hs, h => by simp at h
  | n + 1, a :: b :: r, hs, h => by
    unfold shrink
    split
    · have ih := shrink_cnt up p n r (hs ++ [iabs (a - b)]) (by simp at h; omega)
      simp at ih ⊢
      omega
    · simp
theorem moved_cnt (rs : List Int) (p : Int) : (movedR rs p).1.length + 2 * (movedR rs p).2.length ≤ rs.length + 1 := by
  cases rs with
  | nil => simp [movedR]
  | cons a r =>
    unfold movedR
    dsimp only
    split
    · simp
    · split
      · have := shrink_cnt (decide (a < p)) p r.length r [] (Nat.le_refl _)
        simp at this ⊢; omega
      · have := shrink_cnt (decide (a < p)) p (a :: r).length (a :: r) [] (Nat.le_refl _)
        simp at this ⊢; omega
theorem follow_cnt : ∀ (row rs : List Int), (followR rs row).1.length + 2 * (followR rs row).2.length ≤ rs.length + row.length
  | [], rs => by simp [followR]
  | p :: row, rs => by
    have h1 := follow_cnt row (movedR rs p).1
    have h2 := moved_cnt rs p
    simp [followR]; omega
/-- whether p can follow behind the places rs (last first) -/
def isNextR : List Int → Int → Bool
  | [], p => decide (p ≤ 0)
  | [a], p => decide (a < p)
  | b :: a :: _, p => decide (min a b < p) && decide (p < max a b)
/-- a memory, last place first -/
def MemV : List Int → Prop
  | [] => True
  | a :: r => (-1000000 ≤ a ∧ a ≤ 1000000) ∧ isNextR r a = true ∧ MemV r
def MemOk (rs : List Int) : Prop := rs ≠ [] ∧ MemV rs
theorem memV_at : ∀ {rs : List Int} {k : Nat}, MemV rs → (h : k < rs.length) → (-1000000 ≤ rs[k] ∧ rs[k] ≤ 1000000) ∧ isNextR (rs.drop (k + 1)) rs[k] = true
  | a :: r, 0, m, _ => ⟨m.1, m.2.1⟩
  | a :: r, k + 1, m, h => by
    have := memV_at (rs := r) (k := k) m.2.2 (by simpa using h)
    simpa using this
theorem memV_alt : ∀ {r : List Int} {a b : Int}, MemV (b :: a :: r) → (r.length % 2 = 0 → a < b) ∧ (r.length % 2 = 1 → b < a)
  | [], a, b, m => by
    have h : decide (a < b) = true := m.2.1
    exact ⟨fun _ => of_decide_eq_true h, fun h => by simp at h⟩
  | c :: r, a, b, m => by
    have ih := memV_alt (r := r) (a := c) (b := a) m.2.2
    have h : (decide (min c a < b) && decide (b < max c a)) = true := m.2.1
    simp only [Bool.and_eq_true, decide_eq_true_eq] at h
    simp only [List.length_cons]
    constructor
    · intro e; have := ih.2 (by omega); omega
    · intro e; have := ih.1 (by omega); omega
theorem shrink_up (p : Int) : ∀ (n : Nat) (f hs : List Int), f.length ≤ n → f.length % 2 = 1 → MemV f → (∀ x t, f = x :: t → x < p) → MemV (shrink true p f hs).1 ∧ isNextR (shrink true p f hs).1 p = true ∧ (shrink true p f hs).1 ≠ []
  | _, [], hs, _, h, _, _ => by simp at h
  | _, [a], hs, _, _, m, h => by
    have := h a [] rfl
    simp [shrink, isNextR, m, this]
  | 0, a :: b :: r, hs, h, _, _, _ => by simp at h
  | n + 1, a :: b :: r, hs, h, ho, m, hx => by
    unfold shrink
    split
    · rename_i c
      have cb : b ≤ p := by simpa [pas] using c
      refine shrink_up p n r _ (by simp at h; omega) (by simp at ho; omega) m.2.2.2.2 ?_
      intro x t e
      subst e
      have := (memV_alt m.2.2).1 (by simp at ho; omega)
      omega
    · rename_i c
      have cb : p < b := by simpa [pas] using c
      have ha := hx a (b :: r) rfl
      refine ⟨m, ?_, by simp⟩
      simp only [isNextR, Bool.and_eq_true, decide_eq_true_eq]
      omega
theorem shrink_dn (p : Int) : ∀ (n : Nat) (f hs : List Int), f.length ≤ n → f.length % 2 = 0 → MemV f → (∀ x t, f = x :: t → p < x) → (f = [] → p ≤ 0) → MemV (shrink false p f hs).1 ∧ isNextR (shrink false p f hs).1 p = true
  | _, [], hs, _, h, _, _, h0 => by
    have := h0 rfl
    simp [shrink, isNextR, MemV, this]
  | _, [a], hs, _, h, m, _, _ => by simp at h
  | 0, a :: b :: r, hs, h, _, _, _, _ => by simp at h
  | n + 1, a :: b :: r, hs, h, ho, m, hx, _ => by
    unfold shrink
    split
    · rename_i c
      have cb : p ≤ b := by simpa [pas] using c
      refine shrink_dn p n r _ (by simp at h; omega) (by simp at ho; omega) m.2.2.2.2 ?_ ?_
      · intro x t e
        subst e
        have := (memV_alt m.2.2).2 (by simp at ho; omega)
        omega
      · intro e
        subst e
        have h1 : decide (b ≤ 0) = true := m.2.2.2.1
        have := of_decide_eq_true h1
        omega
    · rename_i c
      have cb : b < p := by simpa [pas] using c
      have ha := hx a (b :: r) rfl
      refine ⟨m, ?_⟩
      simp only [isNextR, Bool.and_eq_true, decide_eq_true_eq]
      omega
theorem memV_moved {rs : List Int} {p : Int} (m : MemV rs) (hne : rs ≠ []) (hp : -1000000 ≤ p ∧ p ≤ 1000000) : MemV (movedR rs p).1 := by
  cases rs with
  | nil => exact absurd rfl hne
  | cons a r =>
    unfold movedR
    dsimp only
    split
    · exact m
    · rename_i hpa
      by_cases up : a < p
      · have hu : decide (a < p) = true := decide_eq_true up
        simp only [hu]
        split
        · rename_i e
          have ev : (r.length + 1) % 2 = 0 := of_decide_eq_true e.symm
          have := shrink_up p r.length r [] (Nat.le_refl _) (by omega) m.2.2 (fun x t e => by
            subst e
            have := (memV_alt m).1 (by simp at ev; omega)
            omega)
          exact ⟨hp, this.2.1, this.1⟩
        · rename_i e
          have ev : ¬ (r.length + 1) % 2 = 0 := fun z => e (decide_eq_true z).symm
          have := shrink_up p (a :: r).length (a :: r) [] (Nat.le_refl _) (by simp; omega) m (fun x t e => by cases e; exact up)
          exact ⟨hp, this.2.1, this.1⟩
      · have hu : decide (a < p) = false := decide_eq_false up
        simp only [hu]
        split
        · rename_i e
          have ev : ¬ (r.length + 1) % 2 = 0 := of_decide_eq_false e.symm
          have := shrink_dn p r.length r [] (Nat.le_refl _) (by omega) m.2.2 (fun x t e => by
            subst e
            have := (memV_alt m).2 (by simp at ev; omega)
            omega) (fun e => by
            subst e
            have h1 : decide (a ≤ 0) = true := m.2.1
            have := of_decide_eq_true h1
            omega)
          exact ⟨hp, this.2, this.1⟩
        · rename_i e
          have ev : (r.length + 1) % 2 = 0 := by
            by_cases z : (r.length + 1) % 2 = 0
            · exact z
            · exact absurd (decide_eq_false z).symm e
          have := shrink_dn p (a :: r).length (a :: r) [] (Nat.le_refl _) (by simpa using ev) m (fun x t e => by cases e; omega) (fun e => by cases e)
          exact ⟨hp, this.2, this.1⟩
theorem memOk_follow : ∀ (row rs : List Int), MemOk rs → (∀ n ∈ row, -1000000 ≤ n ∧ n ≤ 1000000) → MemOk (followR rs row).1
  | [], rs, m, _ => m
  | p :: row, rs, m, h => by
    simp only [followR]
    exact memOk_follow row _ ⟨moved_ne rs p, memV_moved m.2 m.1 (h p (by simp))⟩ (fun n hn => h n (by simp [hn]))
theorem memOk_rest : MemOk [0] := ⟨by simp, by simp [MemV, isNextR]⟩
def memR (row : List Int) : List Int := (followR [0] row).1
/-- the row of a memory (last first) -/
def rowOf (rs : List Int) : List Int := if rs.reverse.head? = some 0 then rs.reverse.tail else rs.reverse
end Mt

/-! plain maths of arms and curves -/
namespace Rg
abbrev Arms := List (Int × Int)
def pos (x : Int) : Int := if x > 0 then x else 0
def cv (a : Arms) (h : Int) : Int := (a.map fun p => p.2 * pos (h - p.1)).sum
def pull (a : Arms) : Int := (a.map fun p => p.2).sum
def Canon (a : Arms) : Prop := a.Pairwise (fun p q => p.1 < q.1) ∧ ∀ p ∈ a, 0 ≤ p.1 ∧ p.2 ≠ 0
theorem pos_nonneg (x : Int) : 0 ≤ pos x := by unfold pos; split <;> omega
theorem pos_of_le {x : Int} (h : x ≤ 0) : pos x = 0 := by unfold pos; split <;> omega
theorem pos_of_ge {x : Int} (h : 0 ≤ x) : pos x = x := by unfold pos; split <;> omega
@[simp] theorem cv_nil (h : Int) : cv [] h = 0 := rfl
@[simp] theorem cv_cons (p : Int × Int) (a : Arms) (h : Int) : cv (p :: a) h = p.2 * pos (h - p.1) + cv a h := by simp [cv]
@[simp] theorem pull_nil : pull [] = 0 := rfl
@[simp] theorem pull_cons (p : Int × Int) (a : Arms) : pull (p :: a) = p.2 + pull a := by simp [pull]
theorem cv_zero_of {a : Arms} {h : Int} (hs : ∀ p ∈ a, h ≤ p.1) : cv a h = 0 := by
  induction a with
  | nil => rfl
  | cons p a ih =>
    rw [cv_cons, ih fun q hq => hs q (List.mem_cons_of_mem _ hq), pos_of_le (by have := hs p (by simp); omega)]
    simp
theorem Canon.tail {p : Int × Int} {a : Arms} (h : Canon (p :: a)) : Canon a := ⟨(List.pairwise_cons.mp h.1).2, fun q hq => h.2 q (List.mem_cons_of_mem _ hq)⟩
theorem Canon.first {p : Int × Int} {a : Arms} (h : Canon (p :: a)) : cv (p :: a) (p.1 + 1) = p.2 := by
  rw [cv_cons, cv_zero_of fun q hq => by have := (List.pairwise_cons.mp h.1).1 q hq; omega, show p.1 + 1 - p.1 = 1 by omega]
  simp [pos]
theorem Canon.zero (a : Arms) (h : Canon a) : cv a 0 = 0 := cv_zero_of fun p hp => (h.2 p hp).1
theorem canon_ext : ∀ {a b : Arms}, Canon a → Canon b → (∀ h : Int, 0 ≤ h → cv a h = cv b h) → a = b
  | [], [], _, _, _ => rfl
  | [], q :: b, _, hb, e => by
    have h1 := hb.first
    have h0 := hb.2 q (by simp)
    rw [← e _ (by omega)] at h1
    simp at h1
    exact absurd h1.symm h0.2
  | p :: a, [], ha, _, e => by
    have h1 := ha.first
    have h0 := ha.2 p (by simp)
    rw [e _ (by omega)] at h1
    simp at h1
    exact absurd h1.symm h0.2
  | p :: a, q :: b, ha, hb, e => by
    have hp := ha.2 p (by simp)
    have hq := hb.2 q (by simp)
    have lt : ∀ {p q : Int × Int} {a b : Arms}, Canon (p :: a) → Canon (q :: b) → (∀ h : Int, 0 ≤ h → cv (p :: a) h = cv (q :: b) h) → ¬ p.1 < q.1 := fun {p q a b} ha hb e h => by
      have h1 := ha.first
      have hp := ha.2 p (by simp)
      rw [e _ (by omega)] at h1
      have h2 : cv (q :: b) (p.1 + 1) = 0 := cv_zero_of fun r hr => by
        rcases List.mem_cons.mp hr with rfl | hr
        · omega
        · have := (List.pairwise_cons.mp hb.1).1 r hr; omega
      rw [h2] at h1
      exact hp.2 h1.symm
    have e1 : p.1 = q.1 := by
      have l1 := lt ha hb e
      have l2 := lt hb ha fun h hh => (e h hh).symm
      omega
    have e2 : p.2 = q.2 := by
      have h1 := ha.first
      have h2 := hb.first
      rw [e _ (by omega), e1] at h1
      omega
    have epq : p = q := Prod.ext e1 e2
    subst epq
    rw [canon_ext ha.tail hb.tail fun h hh => by have := e h hh; simp at this; omega]
/-! ### sums over a table of weights -/
/-- a sum over the entries -/
def sm (φ : Int → Int) (a : Arms) : Int := (a.map fun p => p.2 * φ p.1).sum
@[simp] theorem sm_nil (φ : Int → Int) : sm φ [] = 0 := rfl
@[simp] theorem sm_cons (φ : Int → Int) (p : Int × Int) (a : Arms) : sm φ (p :: a) = p.2 * φ p.1 + sm φ a := by simp [sm]
theorem sm_append (φ : Int → Int) (a b : Arms) : sm φ (a ++ b) = sm φ a + sm φ b := by simp [sm]
theorem cv_sm (a : Arms) (h : Int) : cv a h = sm (fun s => pos (h - s)) a := rfl
theorem sm_perm {φ : Int → Int} {a b : Arms} (h : a.Perm b) : sm φ a = sm φ b := by
  induction h with
  | nil => rfl
  | cons x _ ih => simp [ih]
  | swap x y l => simp; omega
  | trans _ _ ih1 ih2 => rw [ih1, ih2]
theorem pull_sm (a : Arms) : pull a = sm (fun _ => 1) a := by
  induction a with
  | nil => rfl
  | cons p a ih => simp [ih]
def look (ws : Arms) (s : Int) : Int := match ws.find? (fun p => decide (p.1 = s)) with
  | some p => p.2
  | none => 0
def isort (ks : List Int) : List Int := ks.mergeSort (fun a b => decide (a ≤ b))
theorem isort_perm (ks : List Int) : (isort ks).Perm ks := List.mergeSort_perm ks _
theorem isort_sorted (ks : List Int) : (isort ks).Pairwise (· ≤ ·) := by
  have := List.pairwise_mergeSort (le := fun a b : Int => decide (a ≤ b)) (fun a b c h1 h2 => by simp at *; omega) (fun a b => by simp; omega) ks
  exact this.imp (by intro a b h; simpa using h)
def srt (ws : Arms) : Arms := ((isort (ws.map (·.1))).map fun s => (s, look ws s)).filter fun p => decide (p.2 ≠ 0)
theorem look_cons (p : Int × Int) (ws : Arms) (s : Int) : look (p :: ws) s = if p.1 = s then p.2 else look ws s := by
  unfold look
  rw [List.find?_cons]
  by_cases h : p.1 = s <;> simp [h]
theorem look_mem {ws : Arms} (hn : (ws.map (·.1)).Nodup) {p : Int × Int} (hp : p ∈ ws) : look ws p.1 = p.2 := by
  induction ws with
  | nil => cases hp
  | cons q ws ih =>
    rw [List.map_cons, List.nodup_cons] at hn
    rw [look_cons]
    rcases List.mem_cons.mp hp with rfl | hp
    · simp
    · have : q.1 ≠ p.1 := fun e => hn.1 (by rw [e]; exact List.mem_map.mpr ⟨p, hp, rfl⟩)
      rw [if_neg this, ih hn.2 hp]
theorem look_map {ws : Arms} (hn : (ws.map (·.1)).Nodup) : (ws.map (·.1)).map (fun s => (s, look ws s)) = ws := by
  rw [List.map_map]
  conv => rhs; rw [← List.map_id ws]
  apply List.map_congr_left
  intro p hp
  simp [look_mem hn hp]
theorem sm_filter (φ : Int → Int) (a : Arms) : sm φ (a.filter fun p => decide (p.2 ≠ 0)) = sm φ a := by
  induction a with
  | nil => rfl
  | cons p a ih =>
    by_cases h : p.2 = 0
    · rw [List.filter_cons_of_neg (by simp [h]), sm_cons, ih, h]; simp
    · rw [List.filter_cons_of_pos (by simp [h]), sm_cons, sm_cons, ih]
theorem sm_srt (φ : Int → Int) {ws : Arms} (hn : (ws.map (·.1)).Nodup) : sm φ (srt ws) = sm φ ws := by
  unfold srt
  rw [sm_filter]
  have : ((isort (ws.map (·.1))).map fun s => (s, look ws s)).Perm ws := by
    have := (isort_perm (ws.map (·.1))).map fun s => (s, look ws s)
    rw [look_map hn] at this
    exact this
  exact sm_perm this
theorem srt_canon {ws : Arms} (hn : (ws.map (·.1)).Nodup) (h0 : ∀ p ∈ ws, 0 ≤ p.1) : Canon (srt ws) := by
  have hperm := isort_perm (ws.map (·.1))
  have hnd : (isort (ws.map (·.1))).Nodup := hperm.nodup_iff.mpr hn
  have hlt : (isort (ws.map (·.1))).Pairwise (· < ·) := by
    have h1 := isort_sorted (ws.map (·.1))
    exact (List.pairwise_and_iff.mpr ⟨h1, hnd⟩).imp (by intro a b h; have := h.1; have := h.2; omega)
  refine ⟨?_, fun p hp => ?_⟩
  · refine List.Pairwise.filter _ ?_
    exact List.pairwise_map.mpr hlt
  · obtain ⟨h1, h2⟩ := List.mem_filter.mp hp
    obtain ⟨s, hs, rfl⟩ := List.mem_map.mp h1
    have : s ∈ ws.map (·.1) := hperm.mem_iff.mp hs
    obtain ⟨q, hq, rfl⟩ := List.mem_map.mp this
    exact ⟨h0 q hq, by simpa using h2⟩
theorem srt_mem {ws : Arms} {p : Int × Int} (hp : p ∈ srt ws) : (∃ q ∈ ws, q.1 = p.1) ∧ p.2 = look ws p.1 := by
  obtain ⟨h1, h2⟩ := List.mem_filter.mp hp
  obtain ⟨s, hs, rfl⟩ := List.mem_map.mp h1
  have : s ∈ ws.map (·.1) := (isort_perm _).mem_iff.mp hs
  obtain ⟨q, hq, e⟩ := List.mem_map.mp this
  exact ⟨⟨q, hq, e⟩, rfl⟩
theorem srt_len (ws : Arms) : (srt ws).length ≤ ws.length := by
  refine Nat.le_trans (List.length_filter_le _ _) ?_
  rw [List.length_map, (isort_perm _).length_eq, List.length_map]
  exact Nat.le_refl _
/-! ### a table that is written -/
def put (ws : Arms) (s w : Int) : Arms := if (ws.any fun p => decide (p.1 = s)) = true then ws.map (fun p => if p.1 = s then (p.1, w) else p) else ws ++ [(s, w)]
theorem put_keys (ws : Arms) (s w : Int) : (put ws s w).map (·.1) = if s ∈ ws.map (·.1) then ws.map (·.1) else ws.map (·.1) ++ [s] := by
  unfold put
  have e : ((ws.any fun p => decide (p.1 = s)) = true) ↔ s ∈ ws.map (·.1) := by simp
  by_cases h : s ∈ ws.map (·.1)
  · rw [if_pos (e.mpr h), if_pos h, List.map_map]
    apply List.map_congr_left
    intro p _
    simp only [Function.comp]
    split <;> rfl
  · rw [if_neg (fun z => h (e.mp z)), if_neg h, List.map_append]; rfl
theorem put_nodup {ws : Arms} (hn : (ws.map (·.1)).Nodup) (s w : Int) : ((put ws s w).map (·.1)).Nodup := by
  rw [put_keys]
  split
  · exact hn
  · rename_i h
    exact List.nodup_append.mpr ⟨hn, by simp, fun a ha b hb => by
      have : b = s := by simpa using hb
      subst this
      exact fun z => h (z ▸ ha)⟩
theorem sm_put (φ : Int → Int) {ws : Arms} (hn : (ws.map (·.1)).Nodup) (s w : Int) : sm φ (put ws s w) = sm φ ws + (w - look ws s) * φ s := by
  unfold put
  by_cases h : s ∈ ws.map (·.1)
  · rw [if_pos (by simpa using h)]
    induction ws with
    | nil => simp at h
    | cons p ws ih =>
      rw [List.map_cons, List.nodup_cons] at hn
      rw [List.map_cons, sm_cons, sm_cons, look_cons]
      by_cases e : p.1 = s
      · have hns : s ∉ ws.map (·.1) := e ▸ hn.1
        have : ws.map (fun p => if p.1 = s then (p.1, w) else p) = ws := by
          conv => rhs; rw [← List.map_id ws]
          apply List.map_congr_left
          intro q hq
          have : q.1 ≠ s := fun z => hns (z ▸ List.mem_map.mpr ⟨q, hq, rfl⟩)
          simp [this]
        rw [this]
        simp only [e, if_true]
        rw [Int.sub_mul]; omega
      · simp only [e, if_false]
        have hm : s ∈ ws.map (·.1) := by
          rcases List.mem_cons.mp h with z | z
          · exact absurd z.symm e
          · exact z
        rw [ih hn.2 hm]; omega
  · rw [if_neg (by simpa using h), sm_append, sm_cons, sm_nil]
    have : look ws s = 0 := by
      unfold look
      have : ws.find? (fun p => decide (p.1 = s)) = none := List.find?_eq_none.mpr fun p hp => by
        have : p.1 ≠ s := fun z => h (z ▸ List.mem_map.mpr ⟨p, hp, rfl⟩)
        simpa using this
      rw [this]
    rw [this]; simp
/-! ### sums of rigs -/
def addW (a b : Arms) (t : Int) : Arms := b.foldl (fun ws p => put ws p.1 (look ws p.1 + t * p.2)) a
theorem addW_ok (φ : Int → Int) (t : Int) : ∀ {b a : Arms}, (a.map (·.1)).Nodup → ((addW a b t).map (·.1)).Nodup ∧ sm φ (addW a b t) = sm φ a + t * sm φ b
  | [], a, hn => ⟨hn, by simp [addW]⟩
  | p :: b, a, hn => by
    obtain ⟨h1, h2⟩ := addW_ok φ t (b := b) (put_nodup hn p.1 (look a p.1 + t * p.2))
    refine ⟨h1, ?_⟩
    show sm φ (addW (put a p.1 (look a p.1 + t * p.2)) b t) = _
    rw [h2, sm_put φ hn, sm_cons, Int.mul_add]
    have : (look a p.1 + t * p.2 - look a p.1) * φ p.1 = t * (p.2 * φ p.1) := by
      rw [show look a p.1 + t * p.2 - look a p.1 = t * p.2 by omega, Int.mul_assoc]
    omega
theorem put_mem {ws : Arms} {s w : Int} {p : Int × Int} (h : p ∈ put ws s w) : p.1 = s ∨ p ∈ ws := by
  unfold put at h
  split at h
  · obtain ⟨q, hq, rfl⟩ := List.mem_map.mp h
    split
    · rename_i e; exact .inl e
    · exact .inr hq
  · rcases List.mem_append.mp h with h | h
    · exact .inr h
    · have : p = (s, w) := by simpa using h
      exact .inl (by rw [this])
theorem addW_keys (t : Int) : ∀ {b a : Arms} {p : Int × Int}, p ∈ addW a b t → (∃ q ∈ a, q.1 = p.1) ∨ ∃ q ∈ b, q.1 = p.1
  | [], a, p, h => .inl ⟨p, h, rfl⟩
  | q :: b, a, p, h => by
    rcases addW_keys t (b := b) h with ⟨r, hr, e⟩ | ⟨r, hr, e⟩
    · rcases put_mem hr with z | z
      · exact .inr ⟨q, by simp, by rw [← z]; exact e⟩
      · exact .inl ⟨r, z, e⟩
    · exact .inr ⟨r, by simp [hr], e⟩
def addA (a b : Arms) (t : Int) : Arms := srt (addW a b t)
theorem Canon.nodup {a : Arms} (h : Canon a) : (a.map (·.1)).Nodup := by
  have := List.pairwise_map.mpr h.1
  exact this.imp (by intro a b h; omega)
theorem addA_canon {a b : Arms} (ha : Canon a) (hb : ∀ p ∈ b, 0 ≤ p.1) (t : Int) : Canon (addA a b t) := by
  refine srt_canon (addW_ok (fun _ => 0) t ha.nodup).1 fun p hp => ?_
  rcases addW_keys t hp with ⟨q, hq, e⟩ | ⟨q, hq, e⟩
  · rw [← e]; exact (ha.2 q hq).1
  · rw [← e]; exact hb q hq
theorem addA_sm (φ : Int → Int) {a b : Arms} (ha : Canon a) (t : Int) : sm φ (addA a b t) = sm φ a + t * sm φ b := by
  obtain ⟨h1, h2⟩ := addW_ok φ t (b := b) ha.nodup
  unfold addA
  rw [sm_srt φ h1, h2]
theorem addA_cv {a b : Arms} (ha : Canon a) (t h : Int) : cv (addA a b t) h = cv a h + t * cv b h := by rw [cv_sm, cv_sm, cv_sm]; exact addA_sm _ ha t
theorem addA_pull {a b : Arms} (ha : Canon a) (t : Int) : pull (addA a b t) = pull a + t * pull b := by
  rw [pull_sm, pull_sm, pull_sm, addA_sm _ ha]
/-! ### bends and tails -/
theorem cv_step (a : Arms) (h : Int) : cv a (h + 1) - cv a h = sm (fun s => if s ≤ h then 1 else 0) a := by
  induction a with
  | nil => rfl
  | cons p a ih =>
    rw [cv_cons, cv_cons, sm_cons, ← ih]
    have : pos (h + 1 - p.1) = pos (h - p.1) + if p.1 ≤ h then 1 else 0 := by unfold pos; split <;> split <;> split <;> omega
    rw [this, Int.mul_add]; omega
theorem sm_congr {φ ψ : Int → Int} {a : Arms} (h : ∀ p ∈ a, φ p.1 = ψ p.1) : sm φ a = sm ψ a := by
  induction a with
  | nil => rfl
  | cons p a ih => rw [sm_cons, sm_cons, h p (by simp), ih fun q hq => h q (List.mem_cons_of_mem _ hq)]
theorem sm_zero (a : Arms) : sm (fun _ => 0) a = 0 := by
  induction a with
  | nil => rfl
  | cons p a ih => simp [ih]
/-- no slack is greater -/
def Upto (M : Int) (a : Arms) : Prop := ∀ p ∈ a, p.1 ≤ M
theorem cv_tail1 {a : Arms} {M h : Int} (hM : Upto M a) (hh : M ≤ h) : cv a (h + 1) = cv a h + pull a := by
  have := cv_step a h
  rw [sm_congr (ψ := fun _ => 1) fun p hp => by have := hM p hp; simp; omega, ← pull_sm] at this
  omega
theorem cv_tail {a : Arms} {M h : Int} (hM : Upto M a) (hh : M ≤ h) : ∀ k : Nat, cv a (h + k) = cv a h + k * pull a
  | 0 => by simp
  | k + 1 => by
    have h1 := cv_tail hM hh k
    have h2 := cv_tail1 hM (show M ≤ h + k by omega)
    rw [show h + ((k + 1 : Nat) : Int) = h + k + 1 by omega, h2, h1, show ((k + 1 : Nat) : Int) = (k : Int) + 1 by omega, Int.add_mul]
    omega
theorem cv_tail' {a : Arms} {M h x : Int} (hM : Upto M a) (hh : M ≤ h) (hx : h ≤ x) : cv a x = cv a h + (x - h) * pull a := by
  have := cv_tail hM hh (x - h).toNat
  rw [show h + ((x - h).toNat : Int) = x by omega, show ((x - h).toNat : Int) = x - h by omega] at this
  exact this
/-- the curve never falls -/
def Rises (a : Arms) : Prop := ∀ h : Int, 0 ≤ h → cv a h ≤ cv a (h + 1)
theorem Rises.le {a : Arms} (r : Rises a) {x y : Int} (hx : 0 ≤ x) (hxy : x ≤ y) : cv a x ≤ cv a y := by
  have : ∀ k : Nat, cv a x ≤ cv a (x + k) := fun k => by
    induction k with
    | zero => simp
    | succ k ih =>
      have := r (x + k) (by omega)
      rw [show x + ((k + 1 : Nat) : Int) = x + k + 1 by omega]; omega
  have h := this (y - x).toNat
  rwa [show x + ((y - x).toNat : Int) = y by omega] at h
theorem Rises.nonneg {a : Arms} (r : Rises a) (hc : Canon a) {x : Int} (hx : 0 ≤ x) : 0 ≤ cv a x := by
  have := r.le (Int.le_refl 0) hx
  rw [hc.zero] at this
  exact this
def nf : Arms → Int → Bool
  | [], _ => true
  | p :: a, t => decide (0 ≤ t + p.2) && nf a (t + p.2)
/-- the weights up to a height add up to at least 0 -/
theorem nf_iff : ∀ {a : Arms} {t : Int}, Canon a → (nf a t = true ↔ ∀ h : Int, 0 ≤ h → (∃ p ∈ a, p.1 ≤ h) → 0 ≤ t + sm (fun s => if s ≤ h then 1 else 0) a)
  | [], t, _ => by simp [nf]
  | p :: a, t, hc => by
    have ih := nf_iff (a := a) (t := t + p.2) hc.tail
    have hp := hc.2 p (by simp)
    simp only [nf, Bool.and_eq_true, decide_eq_true_eq, ih]
    constructor
    · rintro ⟨h1, h2⟩ h hh ⟨q, hq, hqh⟩
      have hph : p.1 ≤ h := by
        rcases List.mem_cons.mp hq with rfl | hq
        · exact hqh
        · have := (List.pairwise_cons.mp hc.1).1 q hq; omega
      rw [sm_cons, if_pos hph]
      by_cases he : ∃ r ∈ a, r.1 ≤ h
      · have := h2 h hh he; omega
      · rw [sm_congr (ψ := fun _ => 0) fun r hr => if_neg fun z => he ⟨r, hr, z⟩]
        rw [sm_zero]; omega
    · intro H
      constructor
      · have := H p.1 hp.1 ⟨p, by simp, Int.le_refl _⟩
        rw [sm_cons, if_pos (Int.le_refl _), sm_congr (ψ := fun _ => 0) fun r hr => if_neg fun z => by have := (List.pairwise_cons.mp hc.1).1 r hr; omega] at this
        rw [sm_zero] at this; omega
      · rintro h hh ⟨q, hq, hqh⟩
        have := H h hh ⟨q, List.mem_cons_of_mem _ hq, hqh⟩
        have hph : p.1 ≤ h := by have := (List.pairwise_cons.mp hc.1).1 q hq; omega
        rw [sm_cons, if_pos hph] at this
        omega
theorem nf_rises {a : Arms} (hc : Canon a) : nf a 0 = true ↔ Rises a := by
  rw [nf_iff hc]
  constructor
  · intro H h hh
    have e := cv_step a h
    by_cases he : ∃ p ∈ a, p.1 ≤ h
    · have := H h hh he; omega
    · have : sm (fun s => if s ≤ h then 1 else 0) a = 0 := by
        rw [sm_congr (ψ := fun _ => 0) fun r hr => if_neg fun z => he ⟨r, hr, z⟩]
        exact sm_zero a
      omega
  · intro H h hh _
    have := H h hh
    have e := cv_step a h
    omega
/-! ### a curve by its places -/
def bw (E : Int → Int) (h : Nat) : Int := (E (h + 1) - E h) - (if h = 0 then 0 else E h - E (h - 1))
def wB (E : Int → Int) (n : Nat) : Arms := (List.range n).map fun h : Nat => ((h : Int), bw E h)
theorem wB_succ (E : Int → Int) (n : Nat) : wB E (n + 1) = wB E n ++ [((n : Int), bw E n)] := by
  unfold wB; rw [List.range_succ, List.map_append]; rfl
theorem cv_append (a b : Arms) (h : Int) : cv (a ++ b) h = cv a h + cv b h := by rw [cv_sm, sm_append]; rfl
theorem wB_cv (E : Int → Int) : ∀ (n : Nat) (x : Int), 0 ≤ x → (x ≤ n → cv (wB E n) x = E x - E 0) ∧ ((n : Int) ≤ x → 1 ≤ n → cv (wB E n) x = E n - E 0 + (x - n) * (E n - E (n - 1)))
  | 0, x, hx => by
    refine ⟨fun h => ?_, fun _ h => by omega⟩
    have : x = 0 := by omega
    subst this
    simp [wB]
  | n + 1, x, hx => by
    obtain ⟨h1, h2⟩ := wB_cv E n x hx
    have key : cv (wB E (n + 1)) x = cv (wB E n) x + bw E n * pos (x - n) := by rw [wB_succ, cv_append, cv_cons, cv_nil]; simp
    have big : (n : Int) + 1 ≤ x → cv (wB E (n + 1)) x = E (n + 1) - E 0 + (x - (n + 1)) * (E (n + 1) - E n) := fun hnx => by
      rw [key, pos_of_ge (by omega)]
      by_cases hn : n = 0
      · subst hn
        have e0 : cv (wB E 0) x = 0 := rfl
        have e1 : bw E 0 = E (0 + 1) - E 0 := by simp [bw]
        rw [e0, e1]
        have e2 : x - ((0 : Nat) : Int) = (x - (0 + 1)) + 1 := by omega
        rw [e2, Int.mul_add, Int.mul_one, Int.mul_comm (E (0 + 1) - E 0)]
        simp only [Int.natCast_zero]
        omega
      · rw [h2 (by omega) (by omega)]
        have e3 : bw E n = (E (n + 1) - E n) - (E n - E (n - 1)) := by simp [bw, hn]
        rw [e3]
        have e0 : E (↑n + 1) = E ↑n + (E (↑n + 1) - E ↑n) := by omega
        generalize hA : E (↑n + 1) - E ↑n = A at *
        generalize E ↑n - E (↑n - 1) = B at *
        rw [e0]
        have e1 : (x - ↑n) * B + (A - B) * (x - ↑n) = (x - n) * A := by rw [Int.mul_comm (A - B), ← Int.mul_add]; congr 1; omega
        have e2 : (x - ↑n) * A = (x - (↑n + 1)) * A + A := by rw [show x - (n : Int) = (x - (n + 1)) + 1 by omega, Int.add_mul]; omega
        omega
    have cast : ((n + 1 : Nat) : Int) = (n : Int) + 1 := by omega
    refine ⟨fun hx1 => ?_, fun hx1 _ => ?_⟩
    · by_cases hxn : x ≤ n
      · rw [key, pos_of_le (by omega), h1 hxn]; simp
      · have : x = n + 1 := by omega
        rw [big (by omega), this]; simp
    · rw [big (by omega), cast, show (n : Int) + 1 - 1 = n by omega]
theorem wB_keys (E : Int → Int) (n : Nat) : (wB E n).map (·.1) = (List.range n).map fun h : Nat => (h : Int) := by
  unfold wB; rw [List.map_map]; rfl
theorem wB_nodup (E : Int → Int) (n : Nat) : ((wB E n).map (·.1)).Nodup := by
  rw [wB_keys]
  refine List.pairwise_map.mpr ((List.nodup_range (n := n)).imp ?_)
  intro a b h z
  exact h (by omega)
def bentA (E : Int → Int) (n : Nat) : Arms := srt (wB E n)
theorem bentA_canon (E : Int → Int) (n : Nat) : Canon (bentA E n) := srt_canon (wB_nodup E n) fun p hp => by
  obtain ⟨h, _, rfl⟩ := List.mem_map.mp hp
  exact Int.natCast_nonneg h
theorem bentA_cv (E : Int → Int) (n : Nat) (h : Int) : cv (bentA E n) h = cv (wB E n) h := by rw [cv_sm, cv_sm]; exact sm_srt _ (wB_nodup E n)
theorem bentA_upto (E : Int → Int) (n : Nat) : Upto (n - 1) (bentA E n) := fun p hp => by
  obtain ⟨⟨q, hq, e⟩, _⟩ := srt_mem hp
  obtain ⟨h, hh, rfl⟩ := List.mem_map.mp hq
  have := List.mem_range.mp hh
  rw [← e]
  show (h : Int) ≤ n - 1
  omega
/-! ### a rig that drives another one -/
def gs (a : Arms) : Int := match a.getLast? with
  | some p => p.1
  | none => 0
theorem gs_nonneg {a : Arms} (hc : Canon a) : 0 ≤ gs a := by
  unfold gs
  split
  · rename_i p h; exact (hc.2 p (List.mem_of_getLast? h)).1
  · omega
theorem upto_gs {a : Arms} (hc : Canon a) : Upto (gs a) a := fun p hp => by
  unfold gs
  cases q : a.getLast? with
  | none => rw [List.getLast?_eq_none_iff] at q; subst q; cases hp
  | some r =>
    obtain ⟨l, rfl⟩ := List.getLast?_eq_some_iff.mp q
    rcases List.mem_append.mp hp with hp | hp
    · have := (List.pairwise_append.mp hc.1).2.2 p hp r (by simp)
      dsimp only; omega
    · have : p = r := by simpa using hp
      subst this; exact Int.le_refl _
def drA (a b : Arms) : Arms := bentA (fun h => cv b (cv a h)) (gs a + gs b + 1).toNat
theorem drA_cv {a b : Arms} (ha : Canon a) (hb : Canon b) (hr : Rises a) {x : Int} (hx : 0 ≤ x) : cv (drA a b) x = cv b (cv a x) := by
  have ga := gs_nonneg ha
  have gb := gs_nonneg hb
  have hn : ((gs a + gs b + 1).toNat : Int) = gs a + gs b + 1 := by omega
  have e0 : cv b (cv a 0) = 0 := by rw [ha.zero, hb.zero]
  unfold drA
  rw [bentA_cv]
  obtain ⟨h1, h2⟩ := wB_cv (fun h => cv b (cv a h)) (gs a + gs b + 1).toNat x hx
  rw [hn] at h1 h2
  by_cases hle : x ≤ gs a + gs b + 1
  · rw [h1 hle, e0]; omega
  · rw [h2 (by omega) (by omega), e0]
    have hU := upto_gs ha
    have hV := upto_gs hb
    -- beyond gs a + gs b the curve goes evenly
    have lin : ∀ y, gs a + gs b ≤ y → cv b (cv a (y + 1)) - cv b (cv a y) = pull a * pull b := fun y hy => by
      have t1 := cv_tail1 hU (show gs a ≤ y by omega)
      have hm : 0 ≤ pull a := by have := hr y (by omega); omega
      by_cases hz : pull a = 0
      · rw [t1, hz]; simp
      · have hbig : gs b ≤ cv a y := by
          have t2 := cv_tail' hU (Int.le_refl (gs a)) (show gs a ≤ y by omega)
          have t3 := hr.nonneg ha ga
          have t4 : (y - gs a) * 1 ≤ (y - gs a) * pull a := Int.mul_le_mul_of_nonneg_left (by omega) (by omega)
          omega
        have t5 := cv_tail' hV hbig (show cv a y ≤ cv a (y + 1) by omega)
        rw [t5, show cv a (y + 1) - cv a y = pull a by omega]
        omega
    have l1 := lin (gs a + gs b) (Int.le_refl _)
    have all : ∀ k : Nat, cv b (cv a (gs a + gs b + 1 + k)) = cv b (cv a (gs a + gs b + 1)) + k * (pull a * pull b) := fun k => by
      induction k with
      | zero => simp
      | succ k ih =>
        have := lin (gs a + gs b + 1 + k) (by omega)
        rw [show gs a + gs b + 1 + ((k + 1 : Nat) : Int) = gs a + gs b + 1 + k + 1 by omega, show ((k + 1 : Nat) : Int) = (k : Int) + 1 by omega, Int.add_mul]
        omega
    have l2 := all (x - (gs a + gs b + 1)).toNat
    rw [show gs a + gs b + 1 + ((x - (gs a + gs b + 1)).toNat : Int) = x by omega, show ((x - (gs a + gs b + 1)).toNat : Int) = x - (gs a + gs b + 1) by omega] at l2
    rw [l2, show gs a + gs b + 1 - 1 = gs a + gs b by omega, l1]
    omega
theorem drA_canon (a b : Arms) : Canon (drA a b) := bentA_canon _ _
theorem drA_upto {a b : Arms} (ha : Canon a) (hb : Canon b) : Upto (gs a + gs b) (drA a b) := fun p hp => by
  have := bentA_upto _ _ p hp
  have ga := gs_nonneg ha
  have gb := gs_nonneg hb
  omega
end Rg

namespace Rg
theorem nodup_len : ∀ {l m : List Int}, l.Nodup → (∀ x ∈ l, x ∈ m) → l.length ≤ m.length
  | [], m, _, _ => by simp
  | x :: l, m, hn, hs => by
    obtain ⟨h1, h2⟩ := List.nodup_cons.mp hn
    have hx := hs x (by simp)
    have := nodup_len (m := m.erase x) h2 fun y hy => by
      have : y ≠ x := fun z => h1 (z ▸ hy)
      exact (List.mem_erase_of_ne this).mpr (hs y (by simp [hy]))
    rw [List.length_erase_of_mem hx] at this
    have hp : 0 < m.length := List.length_pos_of_mem hx
    simp only [List.length_cons]
    omega
/-! ### bends -/
theorem step_step (a : Arms) (hn : (a.map (·.1)).Nodup) (h : Int) : (cv a (h + 1) - cv a h) - (cv a h - cv a (h - 1)) = look a h := by
  have e1 := cv_step a h
  have e2 := cv_step a (h - 1)
  rw [show h - 1 + 1 = h by omega] at e2
  rw [e1, e2]
  clear e1 e2
  induction a with
  | nil => rfl
  | cons p a ih =>
    rw [List.map_cons, List.nodup_cons] at hn
    rw [sm_cons, sm_cons, look_cons]
    have := ih hn.2
    by_cases e : p.1 = h
    · rw [if_pos (by omega), if_neg (by omega), if_pos e]
      have hz : look a h = 0 := by
        unfold look
        have : a.find? (fun p => decide (p.1 = h)) = none := List.find?_eq_none.mpr fun q hq => by
          have : q.1 ≠ h := fun z => hn.1 (by rw [e, ← z]; exact List.mem_map.mpr ⟨q, hq, rfl⟩)
          simpa using this
        rw [this]
      omega
    · rw [if_neg e]
      by_cases hl : p.1 ≤ h
      · rw [if_pos hl, if_pos (by omega)]; omega
      · rw [if_neg hl, if_neg (by omega)]; omega
theorem cv_neg {a : Arms} (hc : Canon a) {h : Int} (hh : h ≤ 0) : cv a h = 0 := cv_zero_of fun p hp => by have := (hc.2 p hp).1; omega
structure RB (a : Arms) (M L : Int) (n : Nat) : Prop where
  c : Canon a
  m : Upto M a
  m0 : 0 ≤ M
  l : ∀ h : Int, 0 ≤ h → -L ≤ cv a (h + 1) - cv a h ∧ cv a (h + 1) - cv a h ≤ L
  n : a.length ≤ n
theorem RB.l0 {a : Arms} {M L : Int} {n : Nat} (r : RB a M L n) : 0 ≤ L := by have := r.l 0 (by omega); omega
theorem RB.arm {a : Arms} {M L : Int} {n : Nat} (r : RB a M L n) {p : Int × Int} (hp : p ∈ a) : -(2 * L) ≤ p.2 ∧ p.2 ≤ 2 * L := by
  have h := step_step a r.c.nodup p.1
  rw [look_mem r.c.nodup hp] at h
  have h0 := (r.c.2 p hp).1
  have h1 := r.l p.1 h0
  have h2 : -L ≤ cv a p.1 - cv a (p.1 - 1) ∧ cv a p.1 - cv a (p.1 - 1) ≤ L := by
    by_cases z : p.1 = 0
    · rw [z, cv_neg r.c (Int.le_refl 0), cv_neg r.c (show (0 : Int) - 1 ≤ 0 by omega)]
      have := r.l0
      omega
    · have := r.l (p.1 - 1) (by omega)
      rw [show p.1 - 1 + 1 = p.1 by omega] at this
      exact this
  omega
theorem RB.mono {a : Arms} {M L M' L' : Int} {n n' : Nat} (r : RB a M L n) (h1 : M ≤ M') (h2 : L ≤ L') (h3 : n ≤ n') : RB a M' L' n' :=
  ⟨r.c, fun p hp => Int.le_trans (r.m p hp) h1, Int.le_trans r.m0 h1, fun h hh => by have := r.l h hh; omega, Nat.le_trans r.n h3⟩
theorem RB.gs {a : Arms} {M L : Int} {n : Nat} (r : RB a M L n) : gs a ≤ M := by
  unfold Rg.gs
  split
  · rename_i p h; exact r.m p (List.mem_of_getLast? h)
  · exact r.m0
theorem RB.rod {s : Int} (h0 : 0 ≤ s) : RB [(s, 1)] s 1 1 := by
  refine ⟨⟨by simp, by simp [h0]⟩, by intro p hp; simp at hp; subst hp; exact Int.le_refl _, h0, fun h hh => ?_, by simp⟩
  simp only [cv_cons, cv_nil]
  unfold pos
  split <;> split <;> omega
theorem RB.nil {M L : Int} (h1 : 0 ≤ M) (h2 : 0 ≤ L) : RB [] M L 0 := ⟨⟨.nil, by simp⟩, (fun p hp => nomatch hp), h1, (fun h hh => by simp; omega), by simp⟩
theorem put_len (ws : Arms) (s w : Int) : (put ws s w).length ≤ ws.length + 1 := by
  unfold put; split <;> simp
theorem addW_len (t : Int) : ∀ (b a : Arms), (addW a b t).length ≤ a.length + b.length
  | [], a => by simp [addW]
  | p :: b, a => by
    have h1 := addW_len t b (put a p.1 (look a p.1 + t * p.2))
    have h2 := put_len a p.1 (look a p.1 + t * p.2)
    have : (addW a (p :: b) t).length = (addW (put a p.1 (look a p.1 + t * p.2)) b t).length := rfl
    simp only [List.length_cons]
    omega
theorem RB.add {a b : Arms} {M L M' L' T t : Int} {n n' : Nat} (r : RB a M L n) (q : RB b M' L' n') (h1 : -T ≤ t) (h2 : t ≤ T) : RB (addA a b t) (max M M') (L + T * L') (n + n') := by
  refine ⟨addA_canon r.c (fun p hp => (q.c.2 p hp).1) t, fun p hp => ?_, by have := r.m0; omega, fun h hh => ?_, ?_⟩
  · obtain ⟨⟨z, hz, e⟩, _⟩ := srt_mem hp
    rw [← e]
    rcases addW_keys t hz with ⟨w, hw, e2⟩ | ⟨w, hw, e2⟩
    · have := r.m w hw; omega
    · have := q.m w hw; omega
  · have ea := r.l h hh
    have eb := q.l h hh
    have hL := q.l0
    rw [addA_cv r.c, addA_cv r.c]
    have e : cv a (h + 1) + t * cv b (h + 1) - (cv a h + t * cv b h) = (cv a (h + 1) - cv a h) + t * (cv b (h + 1) - cv b h) := by rw [Int.mul_sub]; omega
    rw [e]
    generalize cv b (h + 1) - cv b h = d at *
    have hT : 0 ≤ T := by omega
    have key : -(T * L') ≤ t * d ∧ t * d ≤ T * L' := by
      have k1 : t * d ≤ T * L' := by
        rcases Int.le_total 0 t with ht | ht
        · exact Int.le_trans (Int.mul_le_mul_of_nonneg_left eb.2 ht) (Int.mul_le_mul_of_nonneg_right h2 hL)
        · have : t * d = (-t) * (-d) := by rw [Int.neg_mul_neg]
          rw [this]
          exact Int.le_trans (Int.mul_le_mul_of_nonneg_left (show -d ≤ L' by omega) (by omega)) (Int.mul_le_mul_of_nonneg_right (show -t ≤ T by omega) hL)
      have k2 : -(t * d) ≤ T * L' := by
        rcases Int.le_total 0 t with ht | ht
        · have : -(t * d) = t * (-d) := by rw [Int.mul_neg]
          rw [this]
          exact Int.le_trans (Int.mul_le_mul_of_nonneg_left (show -d ≤ L' by omega) ht) (Int.mul_le_mul_of_nonneg_right h2 hL)
        · have : -(t * d) = (-t) * d := by rw [Int.neg_mul]
          rw [this]
          exact Int.le_trans (Int.mul_le_mul_of_nonneg_left eb.2 (by omega)) (Int.mul_le_mul_of_nonneg_right (show -t ≤ T by omega) hL)
      omega
    omega
  · refine Nat.le_trans (srt_len _) ?_
    have := addW_len t b a
    have := r.n
    have := q.n
    omega
/-- far steps of a curve -/
theorem RB.far {b : Arms} {M L : Int} {n : Nat} (r : RB b M L n) {x d : Int} (hx : 0 ≤ x) (hd : 0 ≤ d) : -(L * d) ≤ cv b (x + d) - cv b x ∧ cv b (x + d) - cv b x ≤ L * d := by
  have : ∀ k : Nat, -(L * k) ≤ cv b (x + k) - cv b x ∧ cv b (x + k) - cv b x ≤ L * k := fun k => by
    induction k with
    | zero => simp
    | succ k ih =>
      have := r.l (x + k) (by omega)
      rw [show x + ((k + 1 : Nat) : Int) = x + k + 1 by omega, show ((k + 1 : Nat) : Int) = (k : Int) + 1 by omega, Int.mul_add]
      omega
  have := this d.toNat
  rwa [show (d.toNat : Int) = d by omega] at this
theorem bend_pos {x m q : Int} (hm : 0 ≤ m) (h : pos (x + m - q) - 2 * pos (x - q) + pos (x - m - q) ≠ 0) : x - m < q ∧ q < x + m := by
  unfold pos at h
  constructor
  · apply Int.not_le.mp
    intro z
    apply h
    split <;> split <;> split <;> omega
  · apply Int.not_le.mp
    intro z
    apply h
    split <;> split <;> split <;> omega
theorem bend_some {b : Arms} {x m : Int} (hm : 0 ≤ m) (h : cv b (x + m) - 2 * cv b x + cv b (x - m) ≠ 0) : ∃ p ∈ b, x - m < p.1 ∧ p.1 < x + m := by
  induction b with
  | nil => simp at h
  | cons p b ih =>
    by_cases e : pos (x + m - p.1) - 2 * pos (x - p.1) + pos (x - m - p.1) = 0
    · obtain ⟨q, hq, hh⟩ := ih (by
        intro z
        apply h
        rw [cv_cons, cv_cons, cv_cons]
        have : p.2 * pos (x + m - p.1) + -2 * (p.2 * pos (x - p.1)) + p.2 * pos (x - m - p.1) = p.2 * (pos (x + m - p.1) - 2 * pos (x - p.1) + pos (x - m - p.1)) := by
          rw [Int.mul_add, Int.mul_sub]
          have : p.2 * (2 * pos (x - p.1)) = 2 * (p.2 * pos (x - p.1)) := by rw [← Int.mul_assoc, Int.mul_comm p.2 2, Int.mul_assoc]
          omega
        rw [e] at this
        simp at this
        omega)
      exact ⟨q, List.mem_cons_of_mem _ hq, hh⟩
    · exact ⟨p, by simp, bend_pos hm e⟩
theorem least {P : Nat → Prop} : (∃ k, P k) → ∃ k, P k ∧ ∀ j, P j → k ≤ j := by
  rintro ⟨k, hk⟩
  induction k using Nat.strongRecOn with
  | _ k ih =>
    by_cases h : ∃ j, j < k ∧ P j
    · obtain ⟨j, hj, pj⟩ := h
      exact ih j hj pj
    · exact ⟨k, hk, fun j pj => Nat.not_lt.mp fun z => h ⟨j, z, pj⟩⟩
open Classical in
/-- the least height at which a curve comes up to a place -/
noncomputable def reach (a : Arms) (q : Int) : Int := if h : ∃ k : Nat, q ≤ cv a k then (((least h).choose : Nat) : Int) else 0
theorem drA_len {a b : Arms} (ha : Canon a) (hb : Canon b) (hr : Rises a) : (drA a b).length ≤ a.length + 2 * b.length := by
  have hnd := (drA_canon a b).nodup
  have key : ∀ x ∈ (drA a b).map (·.1), x ∈ a.map (·.1) ++ b.flatMap (fun q => [reach a q.1 - 1, reach a q.1]) := fun x hx => by
    obtain ⟨p, hp, rfl⟩ := List.mem_map.mp hx
    by_cases hm : p.1 ∈ a.map (·.1)
    · exact List.mem_append_left _ hm
    · apply List.mem_append_right
      have h0 := ((drA_canon a b).2 p hp).1
      have hne := ((drA_canon a b).2 p hp).2
      have e1 := step_step (drA a b) hnd p.1
      rw [look_mem hnd hp] at e1
      have cvE : ∀ y : Int, -1 ≤ y → cv (drA a b) y = cv b (cv a y) := fun y hy => by
        by_cases hz : 0 ≤ y
        · exact drA_cv ha hb hr hz
        · rw [cv_neg (drA_canon a b) (by omega), cv_neg ha (show y ≤ 0 by omega), hb.zero]
      rw [cvE _ (by omega), cvE _ (by omega), cvE _ (by omega)] at e1
      have e2 := step_step a ha.nodup p.1
      have hz : look a p.1 = 0 := by
        unfold look
        have : a.find? (fun q => decide (q.1 = p.1)) = none := List.find?_eq_none.mpr fun q hq => by
          have : q.1 ≠ p.1 := fun z => hm (z ▸ List.mem_map.mpr ⟨q, hq, rfl⟩)
          simpa using this
        rw [this]
      rw [hz] at e2
      have hm0 : 0 ≤ cv a (p.1 + 1) - cv a p.1 := by have := hr p.1 h0; omega
      obtain ⟨q, hq, l1, l2⟩ := bend_some (b := b) (x := cv a p.1) (m := cv a (p.1 + 1) - cv a p.1) hm0 (by
        rw [show cv a p.1 + (cv a (p.1 + 1) - cv a p.1) = cv a (p.1 + 1) by omega, show cv a p.1 - (cv a (p.1 + 1) - cv a p.1) = cv a (p.1 - 1) by omega]
        omega)
      refine List.mem_flatMap.mpr ⟨q, hq, ?_⟩
      have hex : ∃ k : Nat, q.1 ≤ cv a k := ⟨(p.1 + 1).toNat, by rw [show (((p.1 + 1).toNat : Nat) : Int) = p.1 + 1 by omega]; omega⟩
      have hre : reach a q.1 = (((least hex).choose : Nat) : Int) := by unfold reach; rw [dif_pos hex]
      obtain ⟨f1, fm⟩ := (least hex).choose_spec
      generalize (least hex).choose = kk at *
      have f2 : kk ≤ (p.1 + 1).toNat := fm _ (by rw [show (((p.1 + 1).toNat : Nat) : Int) = p.1 + 1 by omega]; omega)
      have f3 : p.1 ≤ (kk : Int) := by
        apply Int.not_lt.mp
        intro z
        have := hr.le (show (0 : Int) ≤ (kk : Int) by omega) (show (kk : Int) ≤ p.1 - 1 by omega)
        omega
      rw [hre]
      have : p.1 = (kk : Int) - 1 ∨ p.1 = (kk : Int) := by omega
      rcases this with z | z
      · rw [z]; simp
      · rw [z]; simp
  have := nodup_len hnd key
  rw [List.length_map, List.length_append, List.length_map] at this
  have e : (b.flatMap fun q => [reach a q.1 - 1, reach a q.1]).length = 2 * b.length := by
    clear key this hb hnd
    induction b with
    | nil => rfl
    | cons q b ih => rw [List.flatMap_cons, List.length_append, ih]; simp; omega
  omega
theorem RB.dr {a b : Arms} {M L M' L' : Int} {n n' : Nat} (r : RB a M L n) (q : RB b M' L' n') (hr : Rises a) : RB (drA a b) (M + M') (L * L') (n + 2 * n') := by
  refine ⟨drA_canon a b, fun p hp => ?_, by have := r.m0; have := q.m0; omega, fun h hh => ?_, ?_⟩
  · have := drA_upto r.c q.c p hp
    have := r.gs
    have := q.gs
    omega
  · rw [drA_cv r.c q.c hr (by omega), drA_cv r.c q.c hr hh]
    have h1 := r.l h hh
    have h2 := hr h hh
    have h3 := q.far (hr.nonneg r.c hh) (show 0 ≤ cv a (h + 1) - cv a h by omega)
    rw [show cv a h + (cv a (h + 1) - cv a h) = cv a (h + 1) by omega] at h3
    have h4 : L' * (cv a (h + 1) - cv a h) ≤ L' * L := Int.mul_le_mul_of_nonneg_left h1.2 q.l0
    rw [Int.mul_comm L L']
    omega
  · have := drA_len r.c q.c hr
    have := r.n
    have := q.n
    omega
end Rg

namespace Rg
theorem look_not {a : Arms} {s : Int} (h : s ∉ a.map (·.1)) : look a s = 0 := by
  unfold look
  have : a.find? (fun q => decide (q.1 = s)) = none := List.find?_eq_none.mpr fun q hq => by
    have : q.1 ≠ s := fun z => h (z ▸ List.mem_map.mpr ⟨q, hq, rfl⟩)
    simpa using this
  rw [this]
/-- driven by a curve of slopes 0 and 1, each bend comes once -/
theorem drA_len1 {a b : Arms} (ha : Canon a) (hb : Canon b) (hr : Rises a) (h1 : ∀ h : Int, 0 ≤ h → cv a (h + 1) - cv a h ≤ 1) : (drA a b).length ≤ a.length + b.length := by
  have hnd := (drA_canon a b).nodup
  have key : ∀ x ∈ (drA a b).map (·.1), x ∈ a.map (·.1) ++ b.map (fun q => reach a q.1) := fun x hx => by
    obtain ⟨p, hp, rfl⟩ := List.mem_map.mp hx
    by_cases hm : p.1 ∈ a.map (·.1)
    · exact List.mem_append_left _ hm
    · apply List.mem_append_right
      have h0 := ((drA_canon a b).2 p hp).1
      have hne := ((drA_canon a b).2 p hp).2
      have e1 := step_step (drA a b) hnd p.1
      rw [look_mem hnd hp] at e1
      have cvE : ∀ y : Int, -1 ≤ y → cv (drA a b) y = cv b (cv a y) := fun y hy => by
        by_cases hz : 0 ≤ y
        · exact drA_cv ha hb hr hz
        · rw [cv_neg (drA_canon a b) (by omega), cv_neg ha (show y ≤ 0 by omega), hb.zero]
      rw [cvE _ (by omega), cvE _ (by omega), cvE _ (by omega)] at e1
      have e2 := step_step a ha.nodup p.1
      rw [look_not hm] at e2
      have hm0 : 0 ≤ cv a (p.1 + 1) - cv a p.1 := by have := hr p.1 h0; omega
      have hm1 := h1 p.1 h0
      obtain ⟨q, hq, l1, l2⟩ := bend_some (b := b) (x := cv a p.1) (m := cv a (p.1 + 1) - cv a p.1) hm0 (by
        rw [show cv a p.1 + (cv a (p.1 + 1) - cv a p.1) = cv a (p.1 + 1) by omega, show cv a p.1 - (cv a (p.1 + 1) - cv a p.1) = cv a (p.1 - 1) by omega]
        omega)
      refine List.mem_map.mpr ⟨q, hq, ?_⟩
      have hex : ∃ k : Nat, q.1 ≤ cv a k := ⟨(p.1 + 1).toNat, by rw [show (((p.1 + 1).toNat : Nat) : Int) = p.1 + 1 by omega]; omega⟩
      have hre : reach a q.1 = (((least hex).choose : Nat) : Int) := by unfold reach; rw [dif_pos hex]
      obtain ⟨f1, fm⟩ := (least hex).choose_spec
      generalize (least hex).choose = kk at *
      have f2 : kk ≤ p.1.toNat := fm _ (by rw [show ((p.1.toNat : Nat) : Int) = p.1 by omega]; omega)
      have f3 : p.1 ≤ (kk : Int) := by
        apply Int.not_lt.mp
        intro z
        have := hr.le (show (0 : Int) ≤ (kk : Int) by omega) (show (kk : Int) ≤ p.1 - 1 by omega)
        omega
      rw [hre]; omega
  have := nodup_len hnd key
  rw [List.length_map, List.length_append, List.length_map, List.length_map] at this
  exact this
theorem RB.dr1 {a b : Arms} {M M' L' : Int} {n n' : Nat} (r : RB a M 1 n) (q : RB b M' L' n') (hr : Rises a) : RB (drA a b) (M + M') L' (n + n') := by
  have h := r.dr q hr
  refine ⟨h.c, h.m, h.m0, by simpa using h.l, ?_⟩
  have := drA_len1 r.c q.c hr fun h hh => (r.l h hh).2
  have := r.n
  have := q.n
  omega
/-! ### trees -/
inductive Tr where
  | rod (s : Int) | mul (t : Tr) (k : Int) | neg (t : Tr) | add (a b : Tr) | sub (a b : Tr) | chn (a b : Tr)
def Tr.ar : Tr → Arms
  | .rod s => [(s, 1)]
  | .mul t k => addA [] t.ar k
  | .neg t => addA [] t.ar (-1)
  | .add a b => addA a.ar b.ar 1
  | .sub a b => addA a.ar b.ar (-1)
  | .chn a b => drA a.ar b.ar
def Tr.tot : Tr → Int
  | .rod s => s
  | .mul t _ => t.tot
  | .neg t => t.tot
  | .add a b => a.tot + b.tot
  | .sub a b => a.tot + b.tot
  | .chn a b => a.tot + b.tot
/-- a tree that is drawn: its depth, its slacks, its chains -/
inductive TOk : Nat → Tr → Prop
  | rod {n : Nat} {s : Int} (h0 : 0 ≤ s) (h6 : s ≤ 6) : TOk n (.rod s)
  | mul {n : Nat} {t : Tr} {k : Int} (ht : TOk n t) (h1 : -3 ≤ k) (h2 : k ≤ 3) : TOk (n + 1) (.mul t k)
  | neg {n : Nat} {t : Tr} (ht : TOk n t) : TOk (n + 1) (.neg t)
  | add {n : Nat} {a b : Tr} (ha : TOk n a) (hb : TOk n b) : TOk (n + 1) (.add a b)
  | sub {n : Nat} {a b : Tr} (ha : TOk n a) (hb : TOk n b) : TOk (n + 1) (.sub a b)
  | chn {n : Nat} {a b : Tr} (ha : TOk n a) (hb : TOk n b) (hr : Rises a.ar) : TOk (n + 1) (.chn a b)
def Lb : Nat → Int
  | 0 => 1
  | 1 => 3
  | 2 => 9
  | _ => 81
def Nb : Nat → Nat
  | 0 => 1
  | 1 => 2
  | 2 => 6
  | _ => 18
def Mb : Nat → Int
  | 0 => 6
  | n + 1 => 2 * Mb n
theorem Mb_pos : ∀ n, 6 ≤ Mb n
  | 0 => by simp [Mb]
  | n + 1 => by have := Mb_pos n; simp only [Mb]; omega
theorem TOk.rb : ∀ {n : Nat} {t : Tr}, TOk n t → n ≤ 3 → RB t.ar (Mb n) (Lb n) (Nb n) ∧ Upto t.tot t.ar ∧ 0 ≤ t.tot ∧ t.tot ≤ Mb n
  | n, _, .rod (s := s) h0 h6, hn => by
    have hM := Mb_pos n
    have hL : 1 ≤ Lb n := by match n with | 0 => decide | 1 => decide | 2 => decide | n + 3 => exact (by decide : (1 : Int) ≤ 81)
    have hN : 1 ≤ Nb n := by match n with | 0 => decide | 1 => decide | 2 => decide | n + 3 => exact (by decide : 1 ≤ 18)
    exact ⟨(RB.rod h0).mono (by omega) hL hN, fun p hp => by simp [Tr.ar] at hp; subst hp; exact Int.le_refl _, h0, by simp only [Tr.tot]; omega⟩
  | n + 1, _, .mul (t := t) (k := k) ht h1 h2, hn => by
    obtain ⟨r, u, t0, t1⟩ := ht.rb (by omega)
    have hM := Mb_pos n
    have q := (RB.nil (M := 0) (L := 0) (by omega) (by omega)).add r (T := 3) (t := k) h1 h2
    refine ⟨q.mono ?_ ?_ ?_, fun p hp => ?_, t0, by simp only [Tr.tot, Mb]; omega⟩
    · simp only [Mb]; omega
    · match n, hn with | 0, _ => decide | 1, _ => decide | 2, _ => decide
    · match n, hn with | 0, _ => decide | 1, _ => decide | 2, _ => decide
    · obtain ⟨⟨z, hz, e⟩, _⟩ := srt_mem hp
      rcases addW_keys k hz with ⟨w, hw, e2⟩ | ⟨w, hw, e2⟩
      · cases hw
      · rw [← e, ← e2]; exact u w hw
  | n + 1, _, .neg (t := t) ht, hn => by
    obtain ⟨r, u, t0, t1⟩ := ht.rb (by omega)
    have hM := Mb_pos n
    have q := (RB.nil (M := 0) (L := 0) (by omega) (by omega)).add r (T := 3) (t := -1) (by omega) (by omega)
    refine ⟨q.mono ?_ ?_ ?_, fun p hp => ?_, t0, by simp only [Tr.tot, Mb]; omega⟩
    · simp only [Mb]; omega
    · match n, hn with | 0, _ => decide | 1, _ => decide | 2, _ => decide
    · match n, hn with | 0, _ => decide | 1, _ => decide | 2, _ => decide
    · obtain ⟨⟨z, hz, e⟩, _⟩ := srt_mem hp
      rcases addW_keys (-1) hz with ⟨w, hw, e2⟩ | ⟨w, hw, e2⟩
      · cases hw
      · rw [← e, ← e2]; exact u w hw
  | n + 1, _, .add (a := a) (b := b) ha hb, hn => by
    obtain ⟨r, u, t0, t1⟩ := ha.rb (by omega)
    obtain ⟨r', u', t0', t1'⟩ := hb.rb (by omega)
    have hM := Mb_pos n
    have q := r.add r' (T := 1) (t := 1) (by omega) (by omega)
    refine ⟨q.mono ?_ ?_ ?_, fun p hp => ?_, by simp only [Tr.tot]; omega, by simp only [Tr.tot, Mb]; omega⟩
    · simp only [Mb]; omega
    · match n, hn with | 0, _ => decide | 1, _ => decide | 2, _ => decide
    · match n, hn with | 0, _ => decide | 1, _ => decide | 2, _ => decide
    · obtain ⟨⟨z, hz, e⟩, _⟩ := srt_mem hp
      show p.1 ≤ a.tot + b.tot
      rcases addW_keys 1 hz with ⟨w, hw, e2⟩ | ⟨w, hw, e2⟩
      · have := u w hw; omega
      · have := u' w hw; omega
  | n + 1, _, .sub (a := a) (b := b) ha hb, hn => by
    obtain ⟨r, u, t0, t1⟩ := ha.rb (by omega)
    obtain ⟨r', u', t0', t1'⟩ := hb.rb (by omega)
    have hM := Mb_pos n
    have q := r.add r' (T := 1) (t := -1) (by omega) (by omega)
    refine ⟨q.mono ?_ ?_ ?_, fun p hp => ?_, by simp only [Tr.tot]; omega, by simp only [Tr.tot, Mb]; omega⟩
    · simp only [Mb]; omega
    · match n, hn with | 0, _ => decide | 1, _ => decide | 2, _ => decide
    · match n, hn with | 0, _ => decide | 1, _ => decide | 2, _ => decide
    · obtain ⟨⟨z, hz, e⟩, _⟩ := srt_mem hp
      show p.1 ≤ a.tot + b.tot
      rcases addW_keys (-1) hz with ⟨w, hw, e2⟩ | ⟨w, hw, e2⟩
      · have := u w hw; omega
      · have := u' w hw; omega
  | n + 1, _, .chn (a := a) (b := b) ha hb hr, hn => by
    obtain ⟨r, u, t0, t1⟩ := ha.rb (by omega)
    obtain ⟨r', u', t0', t1'⟩ := hb.rb (by omega)
    have hM := Mb_pos n
    refine ⟨?_, fun p hp => ?_, by simp only [Tr.tot]; omega, by simp only [Tr.tot, Mb]; omega⟩
    · match n, hn with
      | 0, _ => exact (r.dr1 r' hr).mono (by simp only [Mb]; omega) (by decide) (by decide)
      | 1, _ => exact (r.dr r' hr).mono (by simp only [Mb]; omega) (by decide) (by decide)
      | 2, _ => exact (r.dr r' hr).mono (by simp only [Mb]; omega) (by decide) (by decide)
    · have h := drA_upto r.c r'.c p hp
      have g1 : gs a.ar ≤ a.tot := by
        unfold gs; split
        · rename_i q hq; exact u q (List.mem_of_getLast? hq)
        · exact t0
      have g2 : gs b.ar ≤ b.tot := by
        unfold gs; split
        · rename_i q hq; exact u' q (List.mem_of_getLast? hq)
        · exact t0'
      show p.1 ≤ a.tot + b.tot
      omega
end Rg

namespace Rg
/-! ### the algebra of rigs -/
theorem cnil : Canon [] := ⟨.nil, by simp⟩
theorem cadd {a b : Arms} (ha : Canon a) (hb : Canon b) (t : Int) : Canon (addA a b t) := addA_canon ha (fun p hp => (hb.2 p hp).1) t
variable {a b c : Arms} {t u : Int}
theorem eq_comm' (ha : Canon a) (hb : Canon b) : addA a b 1 = addA b a 1 := canon_ext (cadd ha hb 1) (cadd hb ha 1) fun x hx => by
  rw [addA_cv ha, addA_cv hb]; omega
theorem eq_neg (ha : Canon a) (hb : Canon b) : addA a (addA [] b (-1)) 1 = addA a b (-1) := canon_ext (cadd ha (cadd cnil hb _) 1) (cadd ha hb _) fun x hx => by
  rw [addA_cv ha, addA_cv ha, addA_cv cnil, cv_nil]; omega
theorem eq_assoc (ha : Canon a) (hb : Canon b) (hc : Canon c) : addA (addA a b 1) c 1 = addA a (addA b c 1) 1 := canon_ext (cadd (cadd ha hb _) hc _) (cadd ha (cadd hb hc _) _) fun x hx => by
  rw [addA_cv (cadd ha hb 1), addA_cv ha, addA_cv ha, addA_cv hb]; omega
theorem eq_dist (ha : Canon a) (hb : Canon b) : addA [] (addA a b 1) t = addA (addA [] a t) (addA [] b t) 1 := canon_ext (cadd cnil (cadd ha hb _) _) (cadd (cadd cnil ha _) (cadd cnil hb _) _) fun x hx => by
  rw [addA_cv (cadd cnil ha t), addA_cv cnil, addA_cv cnil, addA_cv cnil, addA_cv ha, cv_nil, Int.mul_add, Int.one_mul]; omega
theorem eq_zero (ha : Canon a) : addA [] a 0 = addA a a (-1) := canon_ext (cadd cnil ha _) (cadd ha ha _) fun x hx => by
  rw [addA_cv cnil, addA_cv ha, cv_nil]; omega
theorem eq_one (ha : Canon a) : addA [] a 1 = a := canon_ext (cadd cnil ha _) ha fun x hx => by
  rw [addA_cv cnil, cv_nil]; omega
theorem eq_negneg (ha : Canon a) : addA [] (addA [] a (-1)) (-1) = a := canon_ext (cadd cnil (cadd cnil ha _) _) ha fun x hx => by
  rw [addA_cv cnil, addA_cv cnil, cv_nil]; omega
theorem eq_dr_add (ha : Canon a) (hb : Canon b) (hc : Canon c) (hr : Rises a) : drA a (addA b c t) = addA (drA a b) (drA a c) t := canon_ext (drA_canon _ _) (cadd (drA_canon _ _) (drA_canon _ _) _) fun x hx => by
  rw [addA_cv (drA_canon _ _), drA_cv ha (cadd hb hc _) hr hx, drA_cv ha hb hr hx, drA_cv ha hc hr hx, addA_cv hb]
theorem eq_dr_mul (ha : Canon a) (hb : Canon b) (hr : Rises a) : drA a (addA [] b t) = addA [] (drA a b) t := canon_ext (drA_canon _ _) (cadd cnil (drA_canon _ _) _) fun x hx => by
  rw [addA_cv cnil, drA_cv ha (cadd cnil hb _) hr hx, drA_cv ha hb hr hx, addA_cv cnil, cv_nil, cv_nil]
theorem eq_dr_assoc (ha : Canon a) (hb : Canon b) (hc : Canon c) (hr : Rises a) (hq : Rises b) (hd : Rises (drA a b)) : drA (drA a b) c = drA a (drA b c) := canon_ext (drA_canon _ _) (drA_canon _ _) fun x hx => by
  rw [drA_cv (drA_canon _ _) hc hd hx, drA_cv ha hb hr hx, drA_cv ha (drA_canon _ _) hr hx, drA_cv hb hc hq (hr.nonneg ha hx)]
theorem cv_rod0 {x : Int} (hx : 0 ≤ x) : cv [(0, 1)] x = x := by
  simp only [cv_cons, cv_nil]
  unfold pos
  split <;> omega
theorem c_rod (h : 0 ≤ t) : Canon [(t, 1)] := (RB.rod h).c
theorem rises_rod : Rises [(t, 1)] := fun h hh => by
  simp only [cv_cons, cv_nil]
  unfold pos
  repeat' split
  all_goals omega
theorem eq_rod_r (ha : Canon a) (hr : Rises a) : drA a [(0, 1)] = a := canon_ext (drA_canon _ _) ha fun x hx => by
  rw [drA_cv ha (c_rod (by decide)) hr hx, cv_rod0 (hr.nonneg ha hx)]
theorem eq_rod_l (ha : Canon a) : drA [(0, 1)] a = a := canon_ext (drA_canon _ _) ha fun x hx => by
  rw [drA_cv (c_rod (by decide)) ha rises_rod hx, cv_rod0 hx]
theorem eq_rods {s t : Int} (h0 : 0 ≤ s) (h1 : 0 ≤ t) : drA [(s, 1)] [(t, 1)] = [(s + t, 1)] := by
  refine canon_ext (drA_canon _ _) (c_rod (by omega)) fun x hx => ?_
  rw [drA_cv (c_rod h0) (c_rod h1) rises_rod hx]
  simp only [cv_cons, cv_nil]
  unfold pos
  repeat' split
  all_goals omega
theorem rises_dr (ha : Canon a) (hb : Canon b) (hr : Rises a) (hq : Rises b) : Rises (drA a b) := fun h hh => by
  rw [drA_cv ha hb hr hh, drA_cv ha hb hr (by omega)]
  exact hq.le (hr.nonneg ha hh) (hr h hh)
theorem pull_plus (ha : Canon a) : pull (addA a b 1) = pull a + pull b := by rw [addA_pull ha]; omega
end Rg

namespace Sr
open PySem PySem.Spec PyProof.Rows L2
/-! ### what the head says -/
/-- a property's getter: its class, its name, its text -/
structure PropD where
  c : Str
  f : Str
  qual : Str
  params : Arguments
  body : List Stmt
  scope : Scope
def prP (K : PySem.W.Frag) (d : PropD) : Addr := He.ma K (He.ga K d.c) d.f
def prG (K : PySem.W.Frag) (d : PropD) : Addr := match PySem.W.recIn K (prP K d) "property" with
  | some (.ref g :: _) => g
  | _ => 0
def PropD.obs (K : PySem.W.Frag) (d : PropD) : He.FnW := match K.lookup (prG K d) with
  | some ⟨_, _, .func fd, _⟩ => some (fd.name, fd.qualname, fd.params, fd.body, fd.scope, fd.globals, fd.closure, fd.builtins)
  | _ => none
def PropD.val (d : PropD) : He.FnW := some (d.f, d.qual, d.params, .stmts d.body, d.scope, mainGlobals, [], builtinsNs)
def PropD.ok (K : PySem.W.Frag) (d : PropD) : Bool := He.eqO (PySem.W.findIn K (.ref (He.ga K d.c)) d.f) (some (some (.ref (prP K d)))) && (decide (PySem.W.specialIn K (.ref (prP K d)) "__get__" = some (some (.builtin "property.__get__"))) &&
  (decide (PySem.W.takesIn K (.ref (prP K d)) = some true) && ((match PySem.W.recIn K (prP K d) "property" with
    | some (.ref _ :: _) => true
    | _ => false) && (PySem.W.keepIn K (.ref (prG K d)) && (match K.lookup (prG K d) with
    | some ⟨_, _, .func fd, _⟩ => PySem.W.codeIn K fd.code d.qual && He.dflB K fd.defaults []
    | _ => false)))))
theorem PropD.funD {K : PySem.W.Frag} {d : PropD} (e : d.obs K = d.val) (c : d.ok K = true) : PropOf K (He.ga K d.c) d.f (prP K d) (prG K d) ∧ ∃ fd, FunD K d.f d.qual d.params d.body d.scope [] [] (prG K d) fd := by
  obtain ⟨c1, c⟩ := He.ba c
  obtain ⟨c2, c⟩ := He.ba c
  obtain ⟨c3, c⟩ := He.ba c
  obtain ⟨c4, c⟩ := He.ba c
  obtain ⟨c5, c6⟩ := He.ba c
  refine ⟨⟨He.eqO_ok c1, of_decide_eq_true c2, of_decide_eq_true c3, ?_⟩, ?_⟩
  · unfold prG
    cases q : PySem.W.recIn K (prP K d) "property" with
    | none => rw [q] at c4; cases c4
    | some l =>
      rw [q] at c4
      cases l with
      | nil => cases c4
      | cons v r =>
        cases v with
        | ref g => exact ⟨r, rfl⟩
        | _ => cases c4
  · unfold PropD.obs at e
    cases q : K.lookup (prG K d) with
    | none => rw [q] at c6; cases c6
    | some o =>
      obtain ⟨oc, od, dt, osl⟩ := o
      rw [q] at c6 e
      cases dt with
      | func fd =>
        obtain ⟨n1, n2, n3, n4, n5, n6, n7, n8, n9, n10, n11, n12, n13, n14, n15⟩ := fd
        have e2 : (some (n1, n2, n3, n4, n5, n6, n7, n15) : He.FnW) = some (d.f, d.qual, d.params, .stmts d.body, d.scope, mainGlobals, [], builtinsNs) := e
        simp only [Option.some.injEq, Prod.mk.injEq] at e2
        obtain ⟨h1, h2, h3, h4, h5, h6, h7, h8⟩ := e2
        subst h1 h2 h3 h4 h5 h6 h7 h8
        obtain ⟨k1, k2⟩ := He.ba (show (PySem.W.codeIn K n13 d.qual && He.dflB K n8 []) = true from c6)
        exact ⟨_, ⟨oc, od, n8, n9, n10, n11, n12, n13, n14, osl, rfl, q, k1, He.dflB_ok k2, .inl rfl⟩, c5⟩
      | _ => cases c6
structure Say (fa : List He.Fa) (fn : List He.DefD) (gt : List PropD) (ex : PySem.W.Frag → Bool) (K : PySem.W.Frag) (mg : Str → Option Value) : Prop where
  g : ∃ h : Heap, K.In h ∧ h.Ns mainGlobals mg
  c : He.SaysD fa fn K
  p : gt.map (PropD.obs K) = gt.map PropD.val
  m : ((gt.all fun d => d.ok K) && ex K) = true
section
variable {fa : List He.Fa} {fn : List He.DefD} {gt : List PropD} {ex : PySem.W.Frag → Bool} {K : PySem.W.Frag} {mg : Str → Option Value}
theorem Say.prop (S : Say fa fn gt ex K mg) (i : Nat) {d : PropD} (h : gt[i]? = some d := by rfl) : PropOf K (He.ga K d.c) d.f (prP K d) (prG K d) ∧ ∃ fd, FunD K d.f d.qual d.params d.body d.scope [] [] (prG K d) fd := by
  have c1 := (He.ba S.m).1
  have e2 : (gt.map (PropD.obs K))[i]? = (gt.map PropD.val)[i]? := by rw [S.p]
  rw [List.getElem?_map, List.getElem?_map, h] at e2
  exact PropD.funD (Option.some.inj e2) (List.all_eq_true.mp c1 d (List.mem_of_getElem? h))
theorem Say.more (S : Say fa fn gt ex K mg) : ex K = true := (He.ba S.m).2
theorem Say.free (S : Say fa fn gt ex K mg) (i : Nat) {x : Str} (h : fa[i]? = some (.free x) := by rfl) : mg x = none := by
  obtain ⟨h0, X, G⟩ := S.g
  exact He.free_ok X G (S.c.fact i h)
theorem Say.glo (S : Say fa fn gt ex K mg) (i : Nat) {x : Str} (h : fa[i]? = some (.glo x) := by rfl) : mg x = some (.ref (He.ga K x)) := by
  obtain ⟨h0, X, G⟩ := S.g
  exact He.glo_ok X G (S.c.fact i h)
theorem Say.int (S : Say fa fn gt ex K mg) (i : Nat) {x : Str} {n : Int} (h : fa[i]? = some (.int x n) := by rfl) : ∃ t, mg x = some (.int n t) := by
  obtain ⟨h0, X, G⟩ := S.g
  exact He.int_ok X G (S.c.fact i h)
theorem Say.str (S : Say fa fn gt ex K mg) (i : Nat) {x : Str} {z : Str} (h : fa[i]? = some (.str x z) := by rfl) : ∃ t, mg x = some (.str z t) := by
  obtain ⟨h0, X, G⟩ := S.g
  exact He.str_ok X G (S.c.fact i h)
end
/-- the Hook: facts, defs, getters, one more Bool -/
abbrev AlM : Type := He.AlD × List He.FnW × Bool
def obM (n : Nat) (fa : List He.Fa) (fn : List He.DefD) (gt : List PropD) (ex : PySem.W.Frag → Bool) (g : Addr → Option Obj) : AlM :=
  (He.obsD fa fn (He.frG g (He.asD g n)), gt.map (PropD.obs (He.frG g (He.asD g n))), (gt.all fun d => d.ok (He.frG g (He.asD g n))) && ex (He.frG g (He.asD g n)))
def hookM (n : Nat) (fa : List He.Fa) (fn : List He.DefD) (gt : List PropD) (ex : PySem.W.Frag → Bool) : PySem.W.Hook where
  α := AlM
  obs := fun s => obM n fa fn gt ex s.heap.get?
  val := fun _ => (He.valD fn, gt.map PropD.val, true)
  says := fun _ h => ∃ K : PySem.W.Frag, K.In h ∧ He.SaysD fa fn K ∧ gt.map (PropD.obs K) = gt.map PropD.val ∧ ((gt.all fun d => d.ok K) && ex K) = true
  of := fun _ _ e => ⟨_, He.frG_in, congrArg (fun z : AlM => z.1) e, congrArg (fun z : AlM => z.2.1) e, congrArg (fun z : AlM => z.2.2) e⟩
  keeps := fun _ _ _ ⟨K, hK, c⟩ k => ⟨K, PySem.W.Frag.In.keeps hK k, c⟩
theorem obM_eq {n : Nat} {fa : List He.Fa} {fn : List He.DefD} {gt : List PropD} {ex : PySem.W.Frag → Bool} {g : Addr → Option Obj} {s : Shared} (h : ∀ a, g a = s.heap.get? a) : obM n fa fn gt ex g = (hookM n fa fn gt ex).obs s := by
  have e : g = s.heap.get? := funext h
  rw [e] <;> rfl
/-! ### a def by its name -/
structure Fn (P : Program) (w : World) (K : PySem.W.Frag) (mg : Str → Option Value) (base : Heap) (CX : CXT) (k : Nat) (x : Str) (ps : List Str) (sp : Sp) : Prop where
  ex : ∃ (f : Addr) (fd : FuncData), mg x = some (.ref f) ∧ PySem.W.keepIn K (.ref f) = true ∧ Binds K fd ps [] ∧ FnOk P w K mg base CX k f fd ps sp ∧ ∃ oc od osl, K.lookup f = some ⟨oc, od, .func fd, osl⟩
abbrev FnP (K : PySem.W.Frag) (x q : Str) (st : Stmt) (f : Addr) (fd : FuncData) : Prop := FunD K x q (defArgs st) (defBody st) (defScope st) [] [] f fd
section
variable {P : Program} {w : World} {K : PySem.W.Frag} {mg : Str → Option Value} {base : Heap} {CX : CXT} {k : Nat} {x : Str} {ps : List Str} {sp : Sp}
theorem Fn.mono (F : Fn P w K mg base CX k x ps sp) {j : Nat} (h : k ≤ j) : Fn P w K mg base CX j x ps sp := by
  obtain ⟨f, fd, a, b, c, d, e⟩ := F.ex
  exact ⟨f, fd, a, b, c, d.mono h, e⟩
theorem Fn.imp (F : Fn P w K mg base CX k x ps sp) {sp' : Sp} (h : ∀ vs H Q E, sp' vs H Q E → sp vs H Q E) : Fn P w K mg base CX k x ps sp' := by
  obtain ⟨f, fd, a, b, c, d, e⟩ := F.ex
  exact ⟨f, fd, a, b, c, d.imp h, e⟩
end
section
variable {fa : List He.Fa} {fn : List He.DefD} {gt : List PropD} {ex : PySem.W.Frag → Bool} {K : PySem.W.Frag} {mg : Str → Option Value} {P : Program} {w : World} {base : Heap}
theorem _root_.L2.FunD.at_ {x qual : Str} {params : Arguments} {body : List Stmt} {scope : Scope} {dvs : List V} {kws : List (Str × V)} {f : Addr} {fd : FuncData} (F : FunD K x qual params body scope dvs kws f fd) : ∃ oc od osl, K.lookup f = some ⟨oc, od, .func fd, osl⟩ := by
  obtain ⟨oc, od, dV, kV, doc, pm, an, cdv, ct, osl, rfl, lk, _⟩ := F.ex
  exact ⟨oc, od, osl, lk⟩
/-- a def that lets no exception out -/
theorem fn_mk {N ps : List Str} {sp : Sp} {k : Nat} {x : Str} (st : Stmt) (S : Say fa fn gt ex K mg) (i j : Nat) (hd : fn[i]? = some ⟨(x, none), x, x, defArgs st, defBody st, defScope st, [], []⟩) (hg : fa[j]? = some (.glo x)) (SC : FnScope N ps (defScope st))
    (hb : ∀ (kV doc pm : Value) (an : Option Addr) (cdv ct : Value) (us : List Value), us.length = ps.length → bindArgs (PySem.W.fnOf x x (defArgs st) (defBody st) (defScope st) .none kV doc pm an cdv ct) ⟨us, []⟩ = pure (ps.zip us))
    (len : ∀ vs H Q E, sp vs H Q E → vs.length = ps.length)
    (hbody : ∀ (f : Addr) (cdv : Value) (A : Around) (outer : List Env) (s : Shared) (H : Hp) (vs : List V) (Q : VK) (E : XK), Room k (A.deeper (envOfC x (defScope st) s.heap.objs.size f cdv)) → sp vs H Q E →
      ∃ t, PSs (cxOf CX0 P w K mg base N x (defScope st) f cdv A outer s H E).nox (defBody st) t ∧ t { nx := fun _ H' => Q .non H', rt := Q } (start N vs) H) : Fn P w K mg base CX0 (k + 1) x ps sp := by
  obtain ⟨fd, F⟩ := S.c.def_ i hd
  refine ⟨_, fd, S.glo j hg, F.kp, F.bindsN hb, ?_, F.at_⟩
  refine F.ok SC len fun cdv A outer s H vs Q E hr h => ?_
  obtain ⟨t, h1, h2⟩ := hbody _ cdv A outer s H vs Q E hr h
  exact ⟨t, h1.nox, h2⟩
end
section
variable {X : Cx} {CX : CXT} {k : Nat} {ps : List Str} {sp : Sp} {E : XK} {x : Str} {p pos : Pos} {e : Expr} {es : List Expr} {t : TA}
theorem pe_fn (F : Fn X.prog X.w X.K X.mg X.base CX k x ps sp) (hr : Room k X.A) (hx : Passes CX X E) (ha : PA X (e :: es) t) (hg : Gl X x := by rfl) (hdb : (x == ("__debug__" : Str)) = false := by decide)
    (he : starEach (e :: es) X.env = (false, eval e X.env) :: starEach es X.env := by rfl) (hpl : (backTo pos (starEach es X.env)).any (·.1) = false := by rfl) :
    PE X (.Call (.Name x p) (e :: es) [] pos) (tCall sp [] E t) := by
  obtain ⟨f, fd, a, b, c, d, _⟩ := F.ex
  exact pe_call d hr hg a b c .nil hx ha hdb he hpl
theorem pe_gint {i : Int} (h : ∃ t, X.mg x = some (.int i t)) (hg : Gl X x := by rfl) (hd : (x == ("__debug__" : Str)) = false := by decide) : PE X (.Name x pos) (tC (.int i)) := by
  obtain ⟨t, h⟩ := h
  exact pe_glob hg h ⟨t, rfl⟩ hd
theorem pe_gstr {z : Str} (h : ∃ t, X.mg x = some (.str z t)) (hg : Gl X x := by rfl) (hd : (x == ("__debug__" : Str)) = false := by decide) : PE X (.Name x pos) (tC (.str z)) := by
  obtain ⟨t, h⟩ := h
  exact pe_glob hg h ⟨t, rfl⟩ hd
end
def spLaw (K : PySem.W.Frag) : Sp := fun vs H Q _ => ∃ (a : Addr) (ns : List Int), vs = [.ref a] ∧ SqL K H a (ns.map V.int) ∧ ns.length ≤ 63 ∧ ∀ H', Q (.bl true) H'
/-! ### rules over the tracked heap -/
def seqH (H : Hp) (p : Addr) (xs : List V) : Prop := H p = some (.lst xs) ∨ H p = some (.tup xs)
theorem seqH.or {K : PySem.W.Frag} {H : Hp} {p : Addr} {xs : List V} (h : seqH H p xs) : SqL K H p xs ∨ SqT K H p xs := h.elim (fun h => .inl (.of h)) fun h => .inr (.of h)
def rIxU : R2 := fun x y H Q => ∃ p xs i v, x = .ref p ∧ y = .int i ∧ seqH H p xs ∧ atI xs i = some v ∧ Q v H
def rLenU : List V → Hp → VK → Prop := fun vs H Q => ∃ p ys, vs = [.ref p] ∧ seqH H p ys ∧ Q (.int ys.length) H
def rListU : List V → Hp → VK → Prop := fun vs H Q => ∃ p ys, vs = [.ref p] ∧ seqH H p ys ∧ ∀ l, H l = none → Q (.ref l) (upd H l (.lst ys))
def rTupU : List V → Hp → VK → Prop := fun vs H Q => ∃ p ys, vs = [.ref p] ∧ H p = some (.lst ys) ∧ ∀ l, H l = none → Q (.ref l) (upd H l (.tup ys))
def rSlLU : V → Option Int → Option Int → Hp → VK → Prop := fun x lo hi H Q => ∃ a xs, x = .ref a ∧ H a = some (.lst xs) ∧ ∀ p, H p = none → Q (.ref p) (upd H p (.lst (cutV xs lo hi)))
def rSlTU : V → Option Int → Option Int → Hp → VK → Prop := fun x lo hi H Q => ∃ a xs, x = .ref a ∧ H a = some (.tup xs) ∧ ∀ p H', Same H H' → H' p = some (.tup (cutV xs lo hi)) → Q (.ref p) H'
def rCatU : R2 := fun x y H Q => ∃ a b xs ys, x = .ref a ∧ y = .ref b ∧ H a = some (.tup xs) ∧ H b = some (.tup ys) ∧ xs.length + ys.length ≤ sizeLine ∧ ∀ p H', Same H H' → H' p = some (.tup (xs ++ ys)) → Q (.ref p) H'
def rMaxU : List V → Hp → VK → Prop := fun vs H Q => ∃ (a : Addr) (ns : List Int), vs = [V.ref a] ∧ seqH H a (ns.map V.int) ∧ 0 < ns.length ∧ ∀ m, m ∈ ns → (∀ y, y ∈ ns → y ≤ m) → Q (.int m) H
def rMinU : List V → Hp → VK → Prop := fun vs H Q => ∃ (a : Addr) (ns : List Int), vs = [V.ref a] ∧ seqH H a (ns.map V.int) ∧ 0 < ns.length ∧ ∀ m, m ∈ ns → (∀ y, y ∈ ns → m ≤ y) → Q (.int m) H
def tyL (x : V) (H : Hp) : Prop := ∃ p xs, x = .ref p ∧ H p = some (.lst xs)
theorem same_upd {H : Hp} {p : Addr} {o : HO} (h : H p = none) : Same H (upd H p o) := fun b u e => by rw [upd_ne (ne_of_none e h)]; exact e
theorem cutV_whole {xs : List V} {lo hi : Option Int} (h1 : HT.sIx xs.length 0 lo = 0) (h2 : HT.sIx xs.length xs.length hi = xs.length) : cutV xs lo hi = xs := by
  unfold cutV; rw [h1, h2]; simp
section
variable {X : Cx}
theorem ix_u : IxR X rIxU := by
  intro value slice pins s σ H x y v u Q I rx ry h hs
  obtain ⟨p, xs, i, z, rfl, rfl, hq | hq, he, q⟩ := h
  · exact ix_list value slice pins s σ H _ _ v u Q I rx ry ⟨p, xs, i, z, rfl, rfl, .of hq, he, q⟩ hs
  · exact ix_tup value slice pins s σ H _ _ v u Q I rx ry ⟨p, xs, i, z, rfl, rfl, .of hq, he, q⟩ hs
theorem call_len_u : CallR X (.builtin "len") rLenU := by
  intro pins s σ H xs us Q I r h
  obtain ⟨p, ys, rfl, hq, q⟩ := h
  exact call_len_seq pins s σ H _ us Q I r ⟨p, ys, rfl, hq.or, q⟩
theorem call_list_u : CallR X (.type "list") rListU := by
  intro pins s σ H xs us Q I r h
  obtain ⟨p, ys, rfl, hq, q⟩ := h
  exact call_list_of pins s σ H _ us Q I r ⟨p, ys, rfl, hq.or, q⟩
theorem call_tup_u : CallR X (.type "tuple") rTupU := by
  intro pins s σ H xs us Q I r h
  obtain ⟨p, ys, rfl, hq, q⟩ := h
  exact call_tuple_of pins s σ H _ us Q I r ⟨p, ys, rfl, .inl ⟨.of hq, q⟩⟩
theorem sl_lu : SlR X rSlLU := by
  intro pins s σ H x v vl vu lo hi sl Q I rx hs pl pu h
  obtain ⟨a, xs, rfl, hx, q⟩ := h
  exact sl_list pins s σ H _ v vl vu lo hi sl Q I rx hs pl pu ⟨a, xs, rfl, .of hx, q⟩
theorem sl_tu : SlR X rSlTU := by
  intro pins s σ H x v vl vu lo hi sl Q I rx hs pl pu h
  obtain ⟨a, xs, rfl, hx, q⟩ := h
  exact sl_tupA pins s σ H _ v vl vu lo hi sl Q I rx hs pl pu ⟨a, xs, rfl, .of hx, fun hw => q a H (.refl H) (by rw [cutV_whole hw.1 hw.2]; exact hx), fun _ p hp => q p _ (same_upd hp) upd_same⟩
theorem op_catU : OpR X (binaryOp .Add) rCatU := by
  intro pins s σ H x y v u Q I rx ry h
  obtain ⟨a, b, xs, ys, rfl, rfl, ha, hb, hz, q⟩ := h
  exact op_catA pins s σ H _ _ v u Q I rx ry ⟨a, b, xs, ys, rfl, rfl, .of ha, .of hb, hz, fun e => q b H (.refl H) (by rw [e]; exact hb), fun _ e => q a H (.refl H) (by rw [e, List.append_nil]; exact ha), fun _ _ p hp => q p _ (same_upd hp) upd_same⟩
end
/-! ### methods of a tracked list -/
def tBML0 (r : V → List V → Hp → VK → Prop) (to : TE) : TE := fun σ H Q => to σ H fun x H1 => (∃ p xs, x = .ref p ∧ H1 p = some (.lst xs)) ∧ r x [] H1 Q
def tBML (r : V → List V → Hp → VK → Prop) (to : TE) (t : TA) : TE := fun σ H Q => to σ H fun x H1 => (∃ p xs, x = .ref p ∧ H1 p = some (.lst xs)) ∧ t σ H1 fun xs H2 => r x xs H2 Q
section
variable {X : Cx} {o e : Expr} {es : List Expr} {to : TE} {t : TA} {name : Str} {apos cpos : Pos} {id : String} {r : V → List V → Hp → VK → Prop}
theorem tyV_lst {K : PySem.W.Frag} {x : V} {H : Hp} (h : ∃ p xs, x = .ref p ∧ H p = some (.lst xs)) : tyV K "list" x H := by
  obtain ⟨p, xs, rfl, h⟩ := h
  exact .inl ⟨rfl, xs, .of h⟩
theorem pe_bmL0 (slot : Slot "list" name id) (hty : typeOf (.builtin id) = pure (.type "method_descriptor")) (hm : MtR X id r) (ho : PE X o to)
    (hbase : attributeBase o name X.env (eval o X.env) = eval o X.env := by rfl) (hline : (apos.endLine == cpos.line) = true := by rfl) : PE X (.Call (.Attribute o name apos) [] [] cpos) (tBML0 r to) := by
  refine ⟨fun pins s σ H Q I h => ?_⟩
  refine wpAny_Call_method0_late hbase hline (thn (ho.run pins s σ H _ I h) fun v s1 ⟨x, H1, I1, r1, ty, q1⟩ => ?_)
  obtain ⟨h1, h2⟩ := tyV_is I1 r1 (tyV_lst ty)
  exact ⟨"list", id, PySem.F.plainAttrs_list, slot, hty, h1, h2, Calls.callWith_builtin rfl (PySem.evalArgs_none (hm pins s1 σ H1 x [] v [] Q I1 r1 .nil q1))⟩
theorem pe_bmL (slot : Slot "list" name id) (hty : typeOf (.builtin id) = pure (.type "method_descriptor")) (hm : MtR X id r) (ho : PE X o to) (ha : PA X (e :: es) t)
    (hbase : attributeBase o name X.env (eval o X.env) = eval o X.env := by rfl)
    (hfew : ((backTo cpos (starEach (e :: es) X.env)).all (fun x => !x.1) && (backToKw cpos (keywordEach [] X.env)).all (fun x => x.1.isSome)
      && decide ((e :: es).length + ([] : List Keyword).length + (if ([] : List Keyword).isEmpty then 0 else 1) < 30)) = true := by rfl)
    (hline : (apos.endLine == cpos.line) = true := by rfl) (hs : starEach (e :: es) X.env = (false, eval e X.env) :: starEach es X.env := by rfl) (hplain : (backTo cpos (starEach es X.env)).any (·.1) = false := by rfl) :
    PE X (.Call (.Attribute o name apos) (e :: es) [] cpos) (tBML r to t) := by
  refine ⟨fun pins s σ H Q I h => ?_⟩
  refine wpAny_Call_method_late hbase hfew hline rfl (thn (ho.run pins s σ H _ I h) fun v s1 ⟨x, H1, I1, r1, ty, q1⟩ => ?_)
  obtain ⟨h1, h2⟩ := tyV_is I1 r1 (tyV_lst ty)
  refine ⟨"list", id, PySem.F.plainAttrs_list, slot, hty, h1, h2, ?_⟩
  have hA := ha.run cpos pins s1 σ H1 _ I1 q1
  rw [hs] at hA ⊢
  refine Calls.callWith_builtin (by show (false || (backTo cpos (starEach es X.env)).any (·.1)) = false; rw [hplain] <;> rfl) (Calls.evalArgs_plain ?_)
  exact thn hA fun us s2 ⟨vs, H2, I2, r2, q2⟩ => hm pins s2 σ H2 x vs v us Q I2 r1 r2 q2
end
theorem cx_K {CX : CXT} {P : Program} {w : World} {K : PySem.W.Frag} {mg : Str → Option Value} {base : Heap} {N : List Str} {qual : Str} {scope : Scope} {f : Addr} {cd : Value} {A : Around} {outer : List Env} {s : Shared} {H : Hp} {E : XK} :
    (cxOf CX P w K mg base N qual scope f cd A outer s H E).K = K := rfl
/-- a statement, then the others, with what holds between them told -/
def tCut (t u : TS) : TS := fun D σ H => ∃ Mid : L2.St → Hp → Prop, t { D with nx := Mid } σ H ∧ ∀ σ' H', Mid σ' H' → u D σ' H'
theorem pss_cut {X : Cx} {st : Stmt} {rest : List Stmt} {t u : TS} (h1 : PS X st t) (h2 : PSs X rest u) : PSs X (st :: rest) (tCut t u) := by
  refine ⟨fun pins s σ H D I h => ?_⟩
  obtain ⟨Mid, h, hu⟩ := h
  refine wpAny_execs_cons (thn (h1.run pins s σ H { D with nx := Mid } I h) fun f s1 q => ?_)
  cases f with
  | next =>
    obtain ⟨σ', H', I', q⟩ := q
    exact h2.run pins s1 σ' H' D I' (hu σ' H' q)
  | ret v => exact q
  | brk => exact q
  | cont => exact q
/-! ### statements, where they are run -/
section
variable {t u : TS} {te : TE} {g : TG} {D : L2.Ends} {σ : L2.St} {H : Hp} {c : TT} {ta : TA}
theorem tSeq_ap : tSeq t u D σ H = t { D with nx := u D } σ H := rfl
theorem tAsg_ap : tAsg te g D σ H = te σ H fun x H1 => g x σ H1 D.nx := rfl
theorem tRet_ap : tRet te D σ H = te σ H D.rt := rfl
theorem tDrop_ap : tDrop te D σ H = te σ H fun _ H1 => D.nx σ H1 := rfl
theorem tNext_ap : tNext D σ H = D.nx σ H := rfl
theorem tIfS_ap : tIfS c t u D σ H = c σ H fun b H1 => if b = true then t D σ H1 else u D σ H1 := rfl
theorem tPar_ap {i j : Nat} : tPar i j ta D σ H = ta σ H fun vs H1 => ∃ v w, vs = [v, w] ∧ D.nx ((σ.set i (some v)).set j (some w)) H1 := rfl
theorem tPar3_ap {i j l : Nat} : tPar3 i j l ta D σ H = ta σ H fun vs H1 => ∃ u v w, vs = [u, v, w] ∧ D.nx (((σ.set i (some u)).set j (some v)).set l (some w)) H1 := rfl
theorem tAug_ap {i : Nat} {ti : TIp} : tAug i te ti D σ H = ∃ x, σ[i]? = some (some x) ∧ te σ H fun y H1 => ti x y H1 fun z H2 => D.nx (σ.set i (some z)) H2 := rfl
end
theorem atI_map {α β : Type} (f : α → β) (xs : List α) (i : Int) : atI (xs.map f) i = (atI xs i).map f := by
  unfold atI
  rw [List.length_map]
  cases ixN xs.length i with
  | none => rfl
  | some j => simp
theorem atI_neg {α : Type} (xs : List α) (k : Nat) : atI xs (-((k : Int) + 1)) = xs.reverse[k]? := by
  unfold atI ixN
  rw [if_neg (by omega)]
  by_cases h : k < xs.length
  · rw [if_pos (by omega)]
    have e : (-((k : Int) + 1) + (xs.length : Int)).toNat = xs.length - 1 - k := by omega
    rw [e, List.getElem?_reverse h]
    rfl
  · rw [if_neg (by omega)]
    have : xs.reverse[k]? = none := List.getElem?_eq_none_iff.mpr (by rw [List.length_reverse]; omega)
    rw [this]; rfl
theorem atI_m1 {α : Type} (xs : List α) : atI xs (-1) = xs.reverse[0]? := atI_neg xs 0
theorem atI_m2 {α : Type} (xs : List α) : atI xs (-2) = xs.reverse[1]? := atI_neg xs 1
theorem atI_zero {α : Type} (x : α) (xs : List α) : atI (x :: xs) 0 = some x := atI_nat (xs := x :: xs) (j := 0) rfl
theorem atI_one {α : Type} (x y : α) (xs : List α) : atI (x :: y :: xs) 1 = some y := atI_nat (xs := x :: y :: xs) (j := 1) rfl
theorem atI_two {α : Type} (x y z : α) (xs : List α) : atI (x :: y :: z :: xs) 2 = some z := atI_nat (xs := x :: y :: z :: xs) (j := 2) rfl
end Sr

namespace Sr
open PySem PySem.Spec PyProof.Rows L2
/-! ### a conditional expression as a test -/
def tIfT (t u v : TT) : TT := fun σ H Q => t σ H fun c H1 => if c = true then u σ H1 Q else v σ H1 Q
theorem pt_ifExp {X : Cx} {c a b : Expr} {tc ta tb : TT} {pos : Pos} (hc : PT X c tc) (ha : PT X a ta) (hb : PT X b tb) : PT X (.IfExp c a b pos) (tIfT tc ta tb) := by
  refine ⟨fun pins s σ H Q I h => ?_⟩
  refine isTrue_IfExp (thn (hc.run pins s σ H _ I h) fun d s1 ⟨H1, I1, q1⟩ => ?_)
  cases d with
  | true => exact ha.run pins s1 σ H1 Q I1 q1
  | false => exact hb.run pins s1 σ H1 Q I1 q1
/-! ### max, min of a tuple of ints -/
section
variable {prog : Program} {w : World} {A : Around} {E : Value → Shared → Prop} {s : Shared} {l : Addr}
theorem iter_tup {Q : Value → Shared → Prop} {its : Array Value} (hl : s.heap.IsTuple l its)
    (h : ∀ s₂ : Shared, s₂ = { s with heap := s.heap.push { cls := .type "tuple_iterator", data := .fields #[.ref l, .int 0 0] } } →
      (s₂.heap.IsTupleIter s.heap.objs.size l 0 ∧ s₂.heap.IsTuple l its) → (∀ b ∈ [s.heap.objs.size, l], b < s₂.heap.objs.size) → l ≠ s.heap.objs.size → Q (.ref s.heap.objs.size) s₂) :
    wpAny (model prog w) A (pyIter (.ref l)) Q E s := by
  have hlt : l < s.heap.objs.size := by obtain ⟨_, e, _⟩ := hl; exact Heap.lt_size e
  refine wpAny_pyIter_tuple hl (h _ rfl ⟨⟨_, Heap.get?_push_size _ rfl, rfl, rfl⟩, hl.at fun o e => Heap.get?_push_of_some _ e⟩ (fun b hb => ?_) (Nat.ne_of_lt hlt))
  show b < (s.heap.push _).objs.size
  rw [Heap.size_push]
  rcases List.mem_cons.mp hb with rfl | hb
  · exact Nat.lt_succ_self _
  · rcases List.mem_cons.mp hb with rfl | hb
    · exact Nat.lt_succ_of_lt hlt
    · cases hb
theorem old_kept {h' : Heap} (hk : ∀ b o, b ∉ [s.heap.objs.size] → (s.heap.push { cls := .type "tuple_iterator", data := .fields #[.ref l, .int 0 0] }).get? b = some o → h'.get? b = some o) :
    ∀ b o, s.heap.get? b = some o → h'.get? b = some o := fun b o e => by
  refine hk b o (fun hm => ?_) (Heap.get?_push_of_some _ e)
  rcases List.mem_cons.mp hm with e1 | hm
  · exact absurd (e1 ▸ Heap.lt_size e) (Nat.lt_irrefl _)
  · cases hm
theorem max_rawT {its : List Value} {ns : List Int} {Q : Value → Shared → Prop} (hh : A.handled = none) (hl : s.heap.IsTuple l its.toArray) (hi : IntsAre its ns) (hne : 0 < ns.length)
    (h : ∀ h' tk M t', (∀ b o, s.heap.get? b = some o → h'.get? b = some o) → M ∈ ns → (∀ a, a ∈ ns → a ≤ M) → Q (.int M t') { s with heap := h', toks := tk }) : wpAny (model prog w) A (call (.builtin "max") [.ref l]) Q E s := by
  obtain ⟨xs, e⟩ := hi.allInts.items
  have hn : numsOf (intItems xs).toList = ns := by rw [← e]; exact hi.numsOf
  rw [nums_intItems] at hn
  subst hn
  rw [e] at hl
  have hsz : 0 < xs.size := by simpa using hne
  refine call_max_walk (iter_tup hl fun s₂ e st hfp hlI => ?_)
  subst e
  refine ⟨_, _, _, _, _, _, _, rfl, Walks.tuple (A := A.in1) hh _ l hlI (intItems xs), st, hfp, by simpa [intItems] using hsz, CmpOf.ints_gt (numAt xs) (fun _ _ => intItems_at), fun v h' tk hP hk => ?_⟩
  have hP : (intItems xs)[argBest (fun i j => decide (numAt xs i > numAt xs j)) (xs.size - 1)]? = some v := by simpa [intItems] using hP
  have hk := old_kept hk
  obtain ⟨t, rfl⟩ := intItems_at hP
  obtain ⟨h1, h2⟩ := argBest_gt (numAt xs) (xs.size - 1)
  refine h h' tk _ t hk ?_ fun a ha => ?_
  · rw [numAt_eq]; exact PySem.getD_mem (by rw [List.length_map, Array.length_toList]; omega)
  · obtain ⟨j, hj, rfl⟩ := mem_getD ha
    rw [List.length_map, Array.length_toList] at hj
    rw [← numAt_eq]; exact h2 j (by omega)
theorem min_rawT {its : List Value} {ns : List Int} {Q : Value → Shared → Prop} (hh : A.handled = none) (hl : s.heap.IsTuple l its.toArray) (hi : IntsAre its ns) (hne : 0 < ns.length)
    (h : ∀ h' tk M t', (∀ b o, s.heap.get? b = some o → h'.get? b = some o) → M ∈ ns → (∀ a, a ∈ ns → M ≤ a) → Q (.int M t') { s with heap := h', toks := tk }) : wpAny (model prog w) A (call (.builtin "min") [.ref l]) Q E s := by
  obtain ⟨xs, e⟩ := hi.allInts.items
  have hn : numsOf (intItems xs).toList = ns := by rw [← e]; exact hi.numsOf
  rw [nums_intItems] at hn
  subst hn
  rw [e] at hl
  have hsz : 0 < xs.size := by simpa using hne
  refine call_min_walk (iter_tup hl fun s₂ e st hfp hlI => ?_)
  subst e
  refine ⟨_, _, _, _, _, _, _, rfl, Walks.tuple (A := A.in1) hh _ l hlI (intItems xs), st, hfp, by simpa [intItems] using hsz, CmpOf.ints_lt (numAt xs) (fun _ _ => intItems_at), fun v h' tk hP hk => ?_⟩
  have hP : (intItems xs)[argBest (fun i j => decide (numAt xs i < numAt xs j)) (xs.size - 1)]? = some v := by simpa [intItems] using hP
  have hk := old_kept hk
  obtain ⟨t, rfl⟩ := intItems_at hP
  obtain ⟨h1, h2⟩ := argBest_lt (numAt xs) (xs.size - 1)
  refine h h' tk _ t hk ?_ fun a ha => ?_
  · rw [numAt_eq]; exact PySem.getD_mem (by rw [List.length_map, Array.length_toList]; omega)
  · obtain ⟨j, hj, rfl⟩ := mem_getD ha
    rw [List.length_map, Array.length_toList] at hj
    rw [← numAt_eq]; exact h2 j (by omega)
end
section
variable {X : Cx}
theorem cr_maxU (hc : X.calm = true) : CallR X (.builtin "max") rMaxU := by
  intro pins s σ H vs us Q I r h
  obtain ⟨a, ns, rfl, hs | hs, hne, q⟩ := h
  · exact cr_max hc pins s σ H _ us Q I r ⟨a, ns, rfl, .of hs, hne, q⟩
  · obtain ⟨its, rv, hl, _⟩ := I.tuple (SqT.of hs)
    rw [Vals.ref1 r]
    exact max_rawT (I.ok.hd hc) hl rv.ints hne fun h' tk m t' hk h1 h2 => ⟨.int _, H, I.kept hk, ⟨_, rfl⟩, q m h1 h2⟩
theorem cr_minU (hc : X.calm = true) : CallR X (.builtin "min") rMinU := by
  intro pins s σ H vs us Q I r h
  obtain ⟨a, ns, rfl, hs | hs, hne, q⟩ := h
  · exact cr_min hc pins s σ H _ us Q I r ⟨a, ns, rfl, .of hs, hne, q⟩
  · obtain ⟨its, rv, hl, _⟩ := I.tuple (SqT.of hs)
    rw [Vals.ref1 r]
    exact min_rawT (I.ok.hd hc) hl rv.ints hne fun h' tk m t' hk h1 h2 => ⟨.int _, H, I.kept hk, ⟨_, rfl⟩, q m h1 h2⟩
end
/-! ### enumerate of a tuple -/
set_option maxHeartbeats 8000000 in
theorem meets_enum1 {v : Value} {o : Obj} {H : Heap → Prop} (B : Begins v o H) :
    Meets (Builtin.«enumerate.__new__» ⟨[.type "enumerate", v], []⟩) (fun _ R s => H s.heap ∧
      R (.ok (.ret (.ref (s.heap.push o).objs.size))) { s with heap := (s.heap.push o).push { cls := .type "enumerate", data := .fields #[.none, .bool false, .ref s.heap.objs.size, rawInt 0, .none, .none] } }) :=
  .of_wp fun prog w A R s h => by
    obtain ⟨hp, g, d, tk, os⟩ := s; obtain ⟨h1, h⟩ := h
    have hsub := sub_enumerate
    have q1 : ∀ {A' : Around} {E : Value → Shared → Prop} {Q : Value → Shared → Prop}, Q (.ref hp.objs.size) ⟨hp.push o, g, d, tk, os⟩ → wpAny (model prog w) A' (pyIter v) Q E ⟨hp, g, d, tk, os⟩ :=
      fun q => B.iter prog w _ _ ⟨hp, g, d, tk, os⟩ _ h1 q
    wp_walk using q1
    refine wpAny_stack_any fun st => wpAny_pure ?_
    split
    · rename_i c _ _ _ _ _
      cases (c == Value.type "enumerate")
      · wp_walk using q1
        exact ⟨_, rfl, h⟩
      · wp_walk using q1
        exact ⟨_, rfl, h⟩
    · wp_walk using q1
      exact ⟨_, rfl, h⟩
theorem call_enum1 {prog : Program} {w : World} {A : Around} {E : Value → Shared → Prop} {s : Shared} {v : Value} {o : Obj} {H : Heap → Prop} {Q : Value → Shared → Prop} (B : Begins v o H) (h1 : H s.heap)
    (h : ∀ h', IsEnum h' (s.heap.objs.size + 1) s.heap.objs.size 0 .none → h'.get? s.heap.objs.size = some o → h'.objs.size = s.heap.objs.size + 2 →
      (∀ b o, s.heap.get? b = some o → h'.get? b = some o) → Q (.ref (s.heap.objs.size + 1)) { s with heap := h' }) :
    wpAny (model prog w) A (call (.type "enumerate") [v]) Q E s := by
  refine callType_new F.called_enumerate (by decide) (F.typeCall_enumerate_1 _) (F.newCall_enumerate_1 _) (fun obj => F.args_object_init_2 obj _) F.entry_enumerate_new
    (meets_enum1 B) ⟨h1, ?_⟩
  have hz : (s.heap.push o).objs.size = s.heap.objs.size + 1 := Heap.size_push ..
  show _ ∧ _
  rw [hz]
  have he : IsEnum ((s.heap.push o).push { cls := .type "enumerate", data := .fields #[.none, .bool false, .ref s.heap.objs.size, rawInt 0, .none, .none] }) (s.heap.objs.size + 1) s.heap.objs.size 0 .none := by
    have := Heap.get?_push_size (s.heap.push o) (o := { cls := .type "enumerate", data := .fields #[.none, .bool false, .ref s.heap.objs.size, rawInt 0, .none, .none] }) rfl
    rw [hz] at this; exact this
  refine ⟨⟨_, he, rfl⟩, h _ he (Heap.get?_push_of_some _ (Heap.get?_push_size _ B.free)) (by rw [Heap.size_push, hz]) fun b o x => Heap.get?_push_of_some _ (Heap.get?_push_of_some _ x)⟩
theorem enumT_end {prog : Program} {w : World} {A : Around} {E : Value → Shared → Prop} {s : Shared} {e it l : Addr} {i : Nat} {items : Array Value} {old : Value} {Q : Option Value → Shared → Prop} (hh : A.handled = none)
    (he : IsEnum s.heap e it i old) (hit : s.heap.IsTupleIter it l i) (hl : s.heap.IsTuple l items) (hx : items[i]? = none)
    (hQ : ∀ h', Heap.ExtBut it s.heap h' → Q none { s with heap := h' }) : wpAny (model prog w) A (pyNext (.ref e)) Q E s := by
  have hT : s.TypeIs (.ref e) "enumerate" := ⟨_, he, rfl⟩
  unfold pyNext
  refine wpAny_bind (wpAny_attempt (wpAny_callSpecial?_slot (name := Str.ofString "__next__") hT F.slot_enumerate_next
    (wpAny_call_entry F.slot_enumerate_next hT F.entry_enumerate_next ?_ (F.args_enumerate_next_1 _))))
  show wpAny _ _ (field (.ref e) 2 >>= _) _ _ _
  refine wpAny_bind (wpAny_field he rfl (x := .ref it) rfl ?_)
  refine wpAny_bind (wpAny_nextOf_tuple_end hh hit hl hx fun h' x he' hx' => ?_)
  obtain ⟨o, ho, hc⟩ := hx'
  refine wpAny_bind (wpAny_isInstance (T := "StopIteration") (b := true) ⟨o, ho, hc⟩ isSubtype_stop ?_)
  exact wpAny_pure (hQ _ he')
def IteT (K : PySem.W.Frag) (a : Addr) : It :=
  ⟨fun i H => ∃ (xs : List V) (x : V), SqT K H a xs ∧ xs[i]? = some x, fun i H v H' => ∃ T x, v = .ref T ∧ H T = none ∧ H' = upd H T (.tup [.int (i : Nat), x]) ∧ ∀ xs, SqT K H a xs → xs[i]? = some x, fun i H => ∃ xs : List V, SqT K H a xs ∧ xs.length ≤ i⟩
theorem turn_enumT {P : Program} {w : World} {K : PySem.W.Frag} {elts : List Expr} {kk : Nat} {tpos : Pos} (a e it : Addr) :
    Turn P w K (.Tuple elts kk tpos) (IteT K a) [e, it] e (fun i h => (∃ old, IsEnum h e it ((i : Nat) : Int) old) ∧ h.IsTupleIter it a i ∧ e ≠ it) where
  mem := by simp
  obj := fun i h st b hb => by
    obtain ⟨⟨old, he⟩, ⟨o, ho, hc, hd⟩, _⟩ := st
    have e' : b = e ∨ b = it := by simpa using hb
    rcases e' with z | z
    · rw [z]; exact ⟨_, he, fun v q => nomatch q⟩
    · rw [z]; exact ⟨o, ho, fun v q => by rw [hd] at q; cases q⟩
  keep := fun i h h' st k => let ⟨⟨old, he⟩, hi, hne⟩ := st; ⟨⟨old, k e (by simp) _ he⟩, hi.at fun o q => k it (by simp) o q, hne⟩
  item := by
    intro X hP hw hK hc i pins s σ H E I hf st hg
    subst hP hw hK
    obtain ⟨⟨old, he⟩, hit, hne⟩ := st
    obtain ⟨xs, x, hq, hx⟩ := hg
    obtain ⟨its, rv, p, hz⟩ := I.tuple hq
    obtain ⟨u, hu, ru⟩ := rv.get hx
    have hel : e < s.heap.objs.size := Heap.lt_size he
    have hil : it < s.heap.objs.size := by obtain ⟨_, q, _⟩ := hit; exact Heap.lt_size q
    have hai : a ≠ it := fun z => by
      obtain ⟨o1, q1, c1, _⟩ := hit
      obtain ⟨o2, q2, c2, _⟩ := p
      rw [← z, q2] at q1
      cases q1
      rw [c2] at c1
      exact absurd c1 (by decide)
    have hae : e ≠ a := fun z => by
      obtain ⟨o2, q2, c2, _⟩ := p
      have he' : s.heap.get? e = some _ := he
      rw [z, q2] at he'
      cases he'
      have c3 : Value.type "enumerate" = Value.type "tuple" := c2
      exact absurd c3 (by decide)
    have hlt : i < its.toArray.size := by
      have := (List.getElem?_eq_some_iff.mp hu).1
      simpa using this
    refine wpAny_pyNext_enum_itemD (Draws.tuple (A := X.A.in1) (I.ok.hd hc) it a hai its.toArray) he ⟨hit, p⟩ hlt hne (by simp [hne, hae]) fun y h' tk hP ho hst hT hsz hk => ?_
    have ey : y = u := by
      rw [show its.toArray[i]? = its[i]? by simp, hu] at hP
      exact (Option.some.inj hP).symm
    subst ey
    obtain ⟨hit', _⟩ := hst
    refine ⟨_, rfl, wpAny_letOwnedTupleGo_enum (s := { s with heap := h', toks := tk + 1 }) ho fun h'' he' sb => ?_⟩
    have hT2 : h''.get? s.heap.objs.size = some { cls := .type "tuple", data := .seq #[.int i tk, y] } := (sb.2 _ (Nat.ne_of_gt hel)).trans hT
    have new : ObjOk X.prog X.w (upd H s.heap.objs.size (.tup [.int (i : Nat), x])) h'' s.heap.objs.size (.tup [.int (i : Nat), x]) :=
      ⟨by show 2 ≤ sizeLine; decide, [.int i tk, y], .cons ⟨_, rfl⟩ (.cons ru .nil), ⟨_, hT2, rfl, _, rfl⟩⟩
    have I1 : Inv X pins σ (upd H s.heap.objs.size (.tup [.int (i : Nat), x])) { s with heap := h'', toks := tk + 1 } :=
      I.turnedNew (ch := [e, it]) (fun b ob hb q => (sb.2 b (fun z => hb (by simp [z]))).trans (hk b ob (fun z => hb (by simp [z])) (fun z => hb (by simp [z])) q)) hf (Nat.le_refl _) new
    refine ⟨.ref s.heap.objs.size, _, I1, rfl, ⟨_, x, rfl, I.hok.fresh (Nat.le_refl _), rfl, fun ys hy => by rw [I.tuple_inj hy hq]; exact hx⟩, ⟨⟨y, ?_⟩, hit'.at fun o q => (sb.2 it (Ne.symm hne)).trans q, hne⟩, fun b hb => ?_⟩
    · have e1 : ((i + 1 : Nat) : Int) = (i : Int) + 1 := by omega
      rw [e1]; exact he'
    · have hb' : b < s.heap.objs.size := by
        have e' : b = e ∨ b = it := by simpa using hb
        rcases e' with z | z
        · rw [z]; exact hel
        · rw [z]; exact hil
      rw [upd_ne (Nat.ne_of_lt hb')]
      exact (hf b hb).1
  done := by
    intro X hP hw hK hc i pins s σ H E I hf st hg
    subst hP hw hK
    obtain ⟨⟨old, he⟩, hit, hne⟩ := st
    obtain ⟨xs, hq, hx⟩ := hg
    obtain ⟨its, rv, p, hz⟩ := I.tuple hq
    obtain ⟨f0, f1, f2, f3, f4, f5⟩ := hf it (by simp)
    have hl := rv.length
    have hai : a ≠ it := fun z => by
      obtain ⟨o1, q1, c1, _⟩ := hit
      obtain ⟨o2, q2, c2, _⟩ := p
      rw [← z, q2] at q1
      cases q1
      rw [c2] at c1
      exact absurd c1 (by decide)
    exact enumT_end (I.ok.hd hc) he hit p (by simp; omega) fun h' eb => ⟨rfl, I.turned (t' := s.toks) (fun b o hb q => eb b o hb q) f0 f1 f3 f4 f5⟩
  self := fun A i s Q E st h => let ⟨⟨_, he⟩, _⟩ := st; wpAny_pyIter_enum he h
def iEnumT (K : PySem.W.Frag) (ta : TA) : TI := fun σ H R => ta σ H fun vs H1 => ∃ a xs, vs = [.ref a] ∧ SqT K H1 a xs ∧ R (IteT K a) H1
theorem pi_enumT {X : Cx} {e : Expr} {ta : TA} {p pos tpos : Pos} {elts : List Expr} {kk : Nat} (hg : Gl X "enumerate") (hm : X.mg "enumerate" = none) (ha : PA X [e] ta) (hs : starEach [e] X.env = [(false, eval e X.env)] := by rfl) :
    PI X (.Tuple elts kk tpos) (.Call (.Name "enumerate" p) [e] [] pos) (iEnumT X.K ta) := by
  refine ⟨fun pins s σ H R I h => ?_⟩
  refine Call_ (ld_blt I hg hm boot_enumerate (PyProof.Rows.callWith_type1 (thn (ha.run pos pins s σ H _ I h) fun us s1 ⟨vs, H1, I1, r1, q1⟩ => ?_) hs rfl))
  obtain ⟨a, xs, ex, hq, q⟩ := q1
  subst ex
  cases r1 with
  | cons r rr =>
    cases rr
    cases r
    obtain ⟨its, rv, p', hz⟩ := I1.tuple hq
    refine call_enum1 (begins_tuple a its.toArray) p' fun h' he hit hsz hk => wpAny_pyIter_enum he ?_
    have I2 : Inv X pins σ H1 { s1 with heap := h' } := I1.kept (t' := s1.toks) hk
    refine ⟨s1.heap.objs.size + 1, [s1.heap.objs.size + 1, s1.heap.objs.size], _, _, H1, rfl, I2, turn_enumT a (s1.heap.objs.size + 1) s1.heap.objs.size, ⟨⟨.none, he⟩, ⟨_, hit, rfl, rfl⟩, Nat.succ_ne_self _⟩, fun b hb => ?_, q⟩
    have e' : b = s1.heap.objs.size + 1 ∨ b = s1.heap.objs.size := by simpa using hb
    have hle : s1.heap.objs.size ≤ b := by
      rcases e' with z | z
      · rw [z]; exact Nat.le_add_right _ _
      · rw [z]; exact Nat.le_refl _
    exact I1.fpOk hle (I1.hok.fresh hle)
theorem walk_enumT {K : PySem.W.Frag} {a : Addr} {xs : List V} : Walk (IteT K a) xs.length (fun H => SqT K H a xs) (YPair (fun i => some (.int (i : Nat))) (fun i => xs[i]?)) := by
  refine ⟨fun i _ hi q => ⟨xs, xs[i], q, by simp [hi]⟩, fun _ q => ⟨xs, q, Nat.le_refl _⟩, fun i H v H' _ q y => ?_⟩
  obtain ⟨T, x, h1, h2, h3, h4⟩ := y
  exact ⟨T, .int (i : Nat), x, h1, h2, h3, rfl, h4 xs q⟩
end Sr

namespace Sr
open PySem PySem.Spec PyProof.Rows L2
/-! ### kinds of values -/
inductive Kd where
  | int | bl | str | non | lst | tup | dct
  deriving DecidableEq
def Kd.name : Kd → String
  | .int => "int" | .bl => "bool" | .str => "str" | .non => "NoneType" | .lst => "list" | .tup => "tuple" | .dct => "dict"
def kdOf (v : V) (H : Hp) : Option Kd := match v with
  | .int _ => some .int
  | .bl _ => some .bl
  | .str _ => some .str
  | .non => some .non
  | .ref p => (match H p with
    | some (.lst _) => some .lst
    | some (.tup _) => some .tup
    | some (.dK _) => some .dct
    | some (.dT _) => some .dct
    | _ => none)
  | _ => none
theorem kdOf_ok {K : PySem.W.Frag} {v : V} {H : Hp} {k : Kd} (h : kdOf v H = some k) : TyX K H v (.type k.name) := by
  cases v with
  | int i => cases h; exact .base (.int i)
  | bl b => cases h; exact .base (.bl b)
  | str x => cases h; exact .base (.str x)
  | non => cases h; exact .base .non
  | ref p =>
    unfold kdOf at h
    dsimp only at h
    split at h
    · rename_i xs e; cases h; exact .base (.lst e)
    · rename_i xs e; cases h; exact .base (.tup e)
    · rename_i xs e; cases h; exact .base (.dK e)
    · rename_i xs e; cases h; exact .base (.dT e)
    · cases h
  | byt b => cases h
  | flt b => cases h
  | ty n => cases h
/-- isinstance(a k, T) -/
def isK : Kd → Kd → Bool
  | .int, .int => true | .bl, .int => true | .bl, .bl => true | .str, .str => true | .lst, .lst => true | .tup, .tup => true | .dct, .dct => true | .non, .non => true
  | _, _ => false
theorem kitB_isK (k T : Kd) (h : T ≠ .non) : kitB k.name T.name = some (isK k T) := by
  cases k <;> cases T <;> first | (exact absurd rfl h) | decide +kernel
def rIsK (T : Kd) : List V → Hp → VK → Prop := fun xs H Q => ∃ x k, xs = [x, .ty T.name] ∧ kdOf x H = some k ∧ Q (.bl (isK k T)) H
theorem call_isK {X : Cx} (T : Kd) (hT : T ≠ .non) : CallR X (.builtin "isinstance") (rIsK T) := by
  intro pins s σ H xs us Q I r h
  obtain ⟨x, k, rfl, hk, q⟩ := h
  exact call_isi pins s σ H _ us Q I r ⟨x, _, _, _, _, rfl, .ty _, kdOf_ok hk, kit_ty (kitB_isK k T hT), q⟩
theorem kdOf_same {v : V} {H H' : Hp} {k : Kd} (e : Same H H') (h : kdOf v H = some k) : kdOf v H' = some k := by
  cases v with
  | ref p =>
    unfold kdOf at h ⊢
    dsimp only at h ⊢
    split at h
    · rename_i xs q; rw [e _ _ q]; exact h
    · rename_i xs q; rw [e _ _ q]; exact h
    · rename_i xs q; rw [e _ _ q]; exact h
    · rename_i xs q; rw [e _ _ q]; exact h
    · cases h
  | _ => exact h
/-! ### lists by their last items -/
theorem cutV_len0 (xs : List V) (i : Int) : cutV xs none (some i) = xs.take (HT.sIx xs.length xs.length (some i)) := by
  unfold cutV
  have : HT.sIx xs.length 0 none = 0 := rfl
  rw [this]; simp
theorem cutV_m2 (xs : List Int) : cutV (xs.map V.int) none (some (-2)) = ((xs.reverse.drop 2).reverse).map V.int := by
  rw [cutV_len0]
  have e : HT.sIx (xs.map V.int).length (xs.map V.int).length (some (-2)) = xs.length - 2 := by
    unfold HT.sIx
    simp
    omega
  rw [e, ← List.map_take, List.drop_reverse, List.reverse_reverse]
theorem atI_tr1 (rs : List Int) : atI (List.map V.int rs.reverse) (-1) = (rs[0]?).map V.int := by rw [atI_map, atI_m1, List.reverse_reverse]
theorem atI_tr2 (rs : List Int) : atI (List.map V.int rs.reverse) (-2) = (rs[1]?).map V.int := by rw [atI_map, atI_m2, List.reverse_reverse]
theorem cutV_tr2 (rs : List Int) : cutV (List.map V.int rs.reverse) none (some (-2)) = List.map V.int (rs.drop 2).reverse := by rw [cutV_m2, List.reverse_reverse]
theorem scal_int {i j : Int} : scal (.int i) (.int j) = true := rfl
theorem scal_bl {i j : Bool} : scal (.bl i) (.bl j) = true := rfl
theorem scal_str {i j : Str} : scal (.str i) (.str j) = true := rfl
def rPopG : V → List V → Hp → VK → Prop := fun x vs H Q => ∃ l xs y, x = .ref l ∧ vs = [] ∧ H l = some (.lst xs) ∧ xs.getLast? = some y ∧ Q y (upd H l (.lst xs.dropLast))
theorem mt_popG {X : Cx} : MtM X "list.pop" rPopG := by
  intro pins s σ H x vs v us Q I rx rv h
  obtain ⟨l, xs, y, rfl, rfl, hH, hy, q⟩ := h
  exact mt_pop pins s σ H _ _ v us Q I rx rv ⟨l, xs, y, rfl, rfl, hH, by rw [← List.getLast?_eq_getElem?]; exact hy, q⟩
theorem last_rev (a : Int) (r : List Int) : (List.map V.int (a :: r).reverse)[(List.map V.int (a :: r).reverse).length - 1]? = some (V.int a) := by
  simp
theorem dropLast_rev (a : Int) (r : List Int) : (List.map V.int (a :: r).reverse).dropLast = List.map V.int r.reverse := by
  simp
theorem _root_.L2.Same.seqH {H H' : Hp} {p : Addr} {xs : List V} (e : Same H H') (h : Sr.seqH H p xs) : Sr.seqH H' p xs := h.elim (fun h => .inl (e _ _ h)) fun h => .inr (e _ _ h)
theorem _root_.L2.Same.updN {H H' : Hp} {p : Addr} {o : HO} (e : Same H H') (h : H p = none) : Same H (upd H' p o) := fun b u q => by
  rw [upd_ne (ne_of_none q h)]; exact e b u q
theorem _root_.L2.Same.new {H H' : Hp} {p : Addr} {o : HO} (e : Same H H') (h : H' p = none) : Same H (upd H' p o) := e.updN (e.free h)
end Sr
namespace Sr
open PySem PySem.Spec PyProof.Rows L2
/-! ### == of sequences of ints -/
theorem dpAll_ints {K : PySem.W.Frag} {H : Hp} : ∀ ns : List Int, DpAll K H (ns.map V.int) (ns.map PyData.int)
  | [] => .nil
  | n :: r => .cons (.int n) (dpAll_ints r)
theorem canLayAll_ints : ∀ ns : List Int, PyData.canLayAll0 (ns.map PyData.int) = true
  | [] => rfl
  | n :: r => by
    show (PyData.canLay0 (.int n) && PyData.canLayAll0 (r.map PyData.int)) = true
    rw [canLayAll_ints r]; rfl
theorem depthAll_ints : ∀ ns : List Int, PyData.depthAll (ns.map PyData.int) ≤ 1
  | [] => by decide
  | n :: r => by
    have := depthAll_ints r
    simp only [List.map_cons, PyData.depthAll, PyData.depth]
    omega
theorem eqvAll_ints : ∀ ns ms : List Int, PyData.eqvAll (ns.map PyData.int) (ms.map PyData.int) = decide (ns = ms)
  | [], [] => rfl
  | [], _ :: _ => rfl
  | _ :: _, [] => rfl
  | n :: r, m :: q => by
    show (PyData.eqv (.int n) (.int m) && PyData.eqvAll (r.map PyData.int) (q.map PyData.int)) = _
    rw [eqvAll_ints r q]
    show ((n == m) && decide (r = q)) = _
    by_cases h : n = m <;> simp [h]
theorem shaped_tup (ns : List Int) : SeqAt.shaped (.tuple (ns.map PyData.int)) = true := by
  have h := depthAll_ints ns
  have h2 := canLayAll_ints ns
  unfold SeqAt.shaped
  simp only [PyData.canLay0, h2, PyData.depth, Bool.true_and]
  exact decide_eq_true (by omega)
theorem shaped_lst (ns : List Int) : SeqAt.shaped (.list (ns.map PyData.int)) = true := by
  have h := depthAll_ints ns
  have h2 := canLayAll_ints ns
  unfold SeqAt.shaped
  simp only [PyData.canLay0, h2, PyData.depth, Bool.true_and]
  exact decide_eq_true (by omega)
def rEqSq : R2 := fun x y H Q => ∃ a b ns ms, x = .ref a ∧ y = .ref b ∧ ((H a = some (.tup (List.map V.int ns)) ∧ H b = some (.tup (List.map V.int ms))) ∨ (H a = some (.lst (List.map V.int ns)) ∧ H b = some (.lst (List.map V.int ms)))) ∧ Q (.bl (decide (ns = ms))) H
def rNeSq : R2 := fun x y H Q => ∃ a b ns ms, x = .ref a ∧ y = .ref b ∧ ((H a = some (.tup (List.map V.int ns)) ∧ H b = some (.tup (List.map V.int ms))) ∨ (H a = some (.lst (List.map V.int ns)) ∧ H b = some (.lst (List.map V.int ms)))) ∧ Q (.bl (!decide (ns = ms))) H
theorem op_eqSq {X : Cx} (hu : X.A.units + 64 < cLine) : OpR X (compareOp .Eq) rEqSq := by
  intro pins s σ H x y v u Q I rx ry h
  obtain ⟨a, b, ns, ms, rfl, rfl, ⟨ha, hb⟩ | ⟨ha, hb⟩, q⟩ := h
  · exact op_eqD hu pins s σ H _ _ v u Q I rx ry ⟨_, _, .tup (.of ha) (dpAll_ints ns), .tup (.of hb) (dpAll_ints ms), shaped_tup ns, shaped_tup ms, by rw [PyData.eqv, eqvAll_ints]; exact q⟩
  · exact op_eqD hu pins s σ H _ _ v u Q I rx ry ⟨_, _, .lst (.of ha) (dpAll_ints ns), .lst (.of hb) (dpAll_ints ms), shaped_lst ns, shaped_lst ms, by rw [PyData.eqv, eqvAll_ints]; exact q⟩
theorem op_neSq {X : Cx} (hu : X.A.units + 64 < cLine) : OpR X (compareOp .NotEq) rNeSq := by
  intro pins s σ H x y v u Q I rx ry h
  obtain ⟨a, b, ns, ms, rfl, rfl, ⟨ha, hb⟩ | ⟨ha, hb⟩, q⟩ := h
  · exact op_neD hu pins s σ H _ _ v u Q I rx ry ⟨_, _, .tup (.of ha) (dpAll_ints ns), .tup (.of hb) (dpAll_ints ms), shaped_tup ns, shaped_tup ms, by rw [PyData.eqv, eqvAll_ints]; exact q⟩
  · exact op_neD hu pins s σ H _ _ v u Q I rx ry ⟨_, _, .lst (.of ha) (dpAll_ints ns), .lst (.of hb) (dpAll_ints ms), shaped_lst ns, shaped_lst ms, by rw [PyData.eqv, eqvAll_ints]; exact q⟩
end Sr

namespace Sr
open PySem PySem.Spec PyProof.Rows L2
/-! ### methods by names -/
/-- the def at a class's method m: its promise -/
structure MeB (P : Program) (w : World) (K : PySem.W.Frag) (mg : Str → Option Value) (base : Heap) (CX : CXT) (k : Nat) (C : Addr) (m : Str) (ps : List Str) (sp : Sp) : Prop where
  ex : ∃ (f : Addr) (fd : FuncData), PySem.W.findIn K (.ref C) m = some (some (.ref f)) ∧ PySem.W.isFn K (.ref f) = true ∧ PySem.W.keepIn K (.ref f) = true ∧ Binds K fd ps [] ∧ FnOk P w K mg base CX k f fd ps sp
section
variable {fa : List He.Fa} {fn : List He.DefD} {gt : List PropD} {ex : PySem.W.Frag → Bool} {K : PySem.W.Frag} {mg : Str → Option Value} {P : Program} {w : World} {base : Heap}
theorem me_mk {N ps : List Str} {sp : Sp} {k : Nat} {c m q : Str} (st : Stmt) (S : Say fa fn gt ex K mg) (i j : Nat) (hd : fn[i]? = some ⟨(c, some m), m, q, defArgs st, defBody st, defScope st, [], []⟩) (hg : fa[j]? = some (.meth c m)) (SC : FnScope N ps (defScope st))
    (hb : ∀ (kV doc pm : Value) (an : Option Addr) (cdv ct : Value) (us : List Value), us.length = ps.length → bindArgs (PySem.W.fnOf m q (defArgs st) (defBody st) (defScope st) .none kV doc pm an cdv ct) ⟨us, []⟩ = pure (ps.zip us))
    (len : ∀ vs H Q E, sp vs H Q E → vs.length = ps.length)
    (hbody : ∀ (f : Addr) (cdv : Value) (A : Around) (outer : List Env) (s : Shared) (H : Hp) (vs : List V) (Q : VK) (E : XK), Room k (A.deeper (envOfC q (defScope st) s.heap.objs.size f cdv)) → sp vs H Q E →
      ∃ t, PSs (cxOf CX0 P w K mg base N q (defScope st) f cdv A outer s H E).nox (defBody st) t ∧ t { nx := fun _ H' => Q .non H', rt := Q } (start N vs) H) : MeB P w K mg base CX0 (k + 1) (He.ga K c) m ps sp := by
  obtain ⟨fd, F⟩ := S.c.def_ i hd
  have M := He.meth_ok (S.c.fact j hg)
  refine ⟨_, fd, M.at_, M.fn, M.kp, F.bindsN hb, ?_⟩
  refine F.ok SC len fun cdv A outer s H vs Q E hr h => ?_
  obtain ⟨t, h1, h2⟩ := hbody _ cdv A outer s H vs Q E hr h
  exact ⟨t, h1.nox, h2⟩
end
section
variable {X : Cx} {CX : CXT} {k : Nat} {C : Addr} {x m : Str} {ps : List Str} {sp : Sp} {E : XK} {p pos apos : Pos} {e o : Expr} {es : List Expr} {ta : TE} {t : TA}
/-- C(e, ..) -/
theorem pe_mk (M : MeB X.prog X.w X.K X.mg X.base CX k C "__init__" ps sp) (hmk : PySem.W.makesIn X.K C = true) (hkc : PySem.W.keepIn X.K (.ref C) = true) (hm : X.mg x = some (.ref C)) (hr : Room (k + 1) X.A) (hx : Passes CX X E) (ha : PA X (e :: es) t)
    (hg : Gl X x := by rfl) (hdb : (x == ("__debug__" : Str)) = false := by decide)
    (he : starEach (e :: es) X.env = (false, eval e X.env) :: starEach es X.env := by rfl) (hpl : (backTo pos (starEach es X.env)).any (·.1) = false := by rfl) :
    PE X (.Call (.Name x p) (e :: es) [] pos) (tMake C sp [] E t) := by
  obtain ⟨f, fd, a, b, c, d, F⟩ := M.ex
  exact pe_make ⟨hmk, a, b, hkc⟩ F hr hg hm d .nil hx ha hdb he hpl
/-- o.m(e, ..) -/
theorem pe_me {pl : Sem Bool} (M : MeB X.prog X.w X.K X.mg X.base CX k C m ps sp) (c : Cls X.K C) (hr : Room k X.A) (hx : Passes CX X E) (ho : PE X o ta) (ha : PA X (e :: es) t)
    (hst : starEach (e :: es) X.env = (false, eval e X.env) :: starEach es X.env := by rfl) (hpl : (backTo pos (starEach es X.env)).any (·.1) = false := by rfl)
    (ht : eval (.Call (.Attribute o m apos) (e :: es) [] pos) X.env = (do
      let ov ← eval o X.env
      standAt apos.atName
      let (f, first) ← holding [ov] (getMethod ov m pl)
      callWith pos f first (backTo pos (starEach (e :: es) X.env)) (backToKw pos (keywordEach [] X.env))) := by rfl) :
    PE X (.Call (.Attribute o m apos) (e :: es) [] pos) (tMeth C m sp [] E ta t) := by
  obtain ⟨f, fd, a, b, c', d, F⟩ := M.ex
  exact pe_meth ho c ⟨a, b, c'⟩ F hr d .nil hx ha hst hpl ht
theorem pe_me0 {pl : Sem Bool} (M : MeB X.prog X.w X.K X.mg X.base CX k C m ps sp) (c : Cls X.K C) (hr : Room k X.A) (hx : Passes CX X E) (ho : PE X o ta)
    (ht : eval (.Call (.Attribute o m apos) [] [] pos) X.env = (do
      let ov ← eval o X.env
      standAt apos.atName
      let (f, first) ← holding [ov] (getMethod ov m pl)
      callWith pos f first (backTo pos (starEach [] X.env)) (backToKw pos (keywordEach [] X.env))) := by rfl) :
    PE X (.Call (.Attribute o m apos) [] [] pos) (tMeth C m sp [] E ta tNil) := by
  obtain ⟨f, fd, a, b, c', d, F⟩ := M.ex
  exact pe_meth0 ho c ⟨a, b, c'⟩ F hr d .nil hx ht
end
/-! ### the callee under another around -/
section
variable {X : Cx} {pins : List (Addr × Obj)} {σ : L2.St} {H : Hp} {s : Shared} {CX : CXT} {k : Nat} {f C : Addr} {sp : Sp} {E : XK}
theorem run_sub {A : Around} {Q : VK} {us : List Value} {vs : List V} (sb : Sub X k A) (F : FnR X.prog X.w X.K X.mg X.base CX k f sp) (hx : Passes CX X E) (I : Inv X pins σ H s) (r : Vals vs us) (h : sp vs H Q E) :
    wpAny (model X.prog X.w) A (call (.ref f) us) (EP X pins σ Q) X.xe s := by
  have e0 : Env0 X.prog X.w X.K X.mg X.base A X.stack s H := by
    have e := I.env0
    exact ⟨by rw [sb.fr]; exact e.frames, e.mod, e.bs, e.bsz, e.funs, e.frf, e.hok, e.bare⟩
  refine wpAny_call (codeAny_mono (F A X.stack s H us vs Q E sb.room e0 r h) fun r s' hq => ?_)
  cases r with
  | error e => exact hx pins σ H s e s' I hq
  | ok fl =>
    cases fl with
    | ret u => exact I.after hq
    | next => exact False.elim hq
    | brk => exact False.elim hq
    | cont => exact False.elim hq
theorem MeB.raw {P : Program} {w : World} {K : PySem.W.Frag} {mg : Str → Option Value} {base : Heap} {m : Str} {ps : List Str} (M : MeB P w K mg base CX k C m ps sp) :
    ∃ f, PySem.W.findIn K (.ref C) m = some (some (.ref f)) ∧ PySem.W.isFn K (.ref f) = true ∧ FnR P w K mg base CX k f sp := by
  obtain ⟨f, fd, a, b, c, d, F⟩ := M.ex
  exact ⟨f, a, b, (F.raw d .nil).imp fun vs H Q E h => by rw [List.append_nil]; exact h⟩
theorem looks_at {M : Model} {h : Heap} {a : Addr} {o : Obj} {T : Value} (e : h.get? a = some o) (c : o.cls = T) : PySem.W.Looks M h (typeOf (.ref a)) T := c ▸ (PySem.W.Looks.ld e).andThen .now
/-! ### x == y, x an instance -/
def rOwnEq (K : PySem.W.Frag) (C : Addr) (sp : Sp) (E : XK) : R2 := fun x y H Q => ∃ a dx fs, x = .ref a ∧ H a = some (.ins C dx fs) ∧
  ((∃ b dy gs, y = .ref b ∧ H b = some (.ins C dy gs)) ∨ ∃ b xs, y = .ref b ∧ H b = some (.tup xs) ∧ PySem.W.notFirst K C (.type "tuple") = true) ∧ sp [x, y] H (fun v H' => ∃ b, v = .bl b ∧ Q v H') E
theorem rc_own {op : CmpOp} {A : Around} {ps : List Str} {x y : V} {v u : Value} {Q : VK} (M : MeB X.prog X.w X.K X.mg X.base CX k C (PySem.cmpInfo op).2.1 ps sp) (sb : Sub X k A) (hx : Passes CX X E) (I : Inv X pins σ H s) (rx : RelV x v) (ry : RelV y u) (h : rOwnEq X.K C sp E x y H Q) :
    wpAny (model X.prog X.w) A (richCompare op v u) (fun r s' => ∃ b, r = .bool b ∧ EP X pins σ Q r s') X.xe s := by
  obtain ⟨a, dx, fs, rfl, ha, hy, q⟩ := h
  obtain ⟨f, h1, h2, F⟩ := M.raw
  cases rx
  obtain ⟨mA, J, _⟩ := ins_get I.hok ha
  obtain ⟨od, J, _⟩ := J.look
  obtain ⟨m, hF⟩ := I.fr
  have fin : wpAny (model X.prog X.w) A (call (.ref f) [.ref a, u]) (PySem.W.CmpBack fun r s' => ∃ b, r = .bool b ∧ EP X pins σ Q r s') X.xe s := by
    refine thn (run_sub (vs := [.ref a, y]) sb F hx I (.cons rfl (.cons ry .nil)) q) fun r s' ⟨w, H', I', rw', b, eb, q'⟩ => ?_
    subst eb
    have er : r = .bool b := rw'
    subst er
    exact ⟨b, rfl, .bl b, H', I', rfl, q'⟩
  rcases hy with ⟨b, dy, gs, rfl, hb⟩ | ⟨b, xs, rfl, hb, hn⟩
  · cases ry
    obtain ⟨mB, J', _⟩ := ins_get I.hok hb
    obtain ⟨od', J', _⟩ := J'.look
    exact PySem.W.cmp_K (tb := .ref C) sb.room.units0 hF I.ok.mod.kin J J'.type (by simp [PySem.W.notFirst]) h1 h2 fin
  · cases ry
    obtain ⟨_, its, _, o, ho, hc, _⟩ := (show ObjOk X.prog X.w H s.heap b (.tup xs) from I.hok b _ hb)
    exact PySem.W.cmp_K (tb := .type "tuple") sb.room.units0 hF I.ok.mod.kin J (looks_at ho hc) hn h1 h2 fin
theorem op_eqI {ps : List Str} (M : MeB X.prog X.w X.K X.mg X.base CX k C "__eq__" ps sp) (hr : Room k X.A) (hx : Passes CX X E) : OpR X (compareOp .Eq) (rOwnEq X.K C sp E) := by
  intro pins s σ H x y v u Q I rx ry hq
  show wpAny (model X.prog X.w) X.A (richCompare .Eq v u) (EP X pins σ Q) X.xe s
  exact thn (rc_own (op := .Eq) M ⟨hr, rfl⟩ hx I rx ry hq) fun r s' ⟨b, _, z⟩ => z
end
/-! ### x != y, by the own == -/
def neIn (K : PySem.W.Frag) (C f : Addr) : Bool := match K.lookup C with
  | some ⟨.type t, _, .cls cd, sl⟩ => decide (t = "type") && (match cd.mro, sl.toList with
    | [.ref C', .type o], [_, _, _, _, some (.builtin _), _] => (C' == C) && (decide (o = "object") && (!cd.hasDel && (PySem.W.nsOkIn K cd.ns && (decide (PySem.W.nsIn K cd.ns "__eq__" = some (some (.ref f))) && (decide (PySem.W.nsIn K cd.ns "__ne__" = some none) && (match K.lookup f with
      | some o => decide (o.cls = .type "function")
      | none => false))))))
    | _, _ => false)
  | _ => false
theorem ns_some_of {K : PySem.W.Frag} {h : Heap} {N : Addr} {mg : Str → Option Value} {n : Str} {v : Value} (X : K.In h) (G : h.Ns N mg) (e : PySem.W.nsIn K N n = some (some v)) : mg n = some v := by
  obtain ⟨o, es, ep, ho, hd, _, hf⟩ := G
  unfold PySem.W.nsIn at e
  split at e
  · rename_i c d es' n' sl q
    have := X _ _ q
    rw [ho] at this
    cases this
    cases hd
    split at e
    · rename_i en he
      cases e
      rw [← hf]
      unfold nsFind findBy
      rw [← Array.find?_toList, he]
      rfl
    · split at e <;> cases e
  · cases e
theorem neIn_of {K : PySem.W.Frag} {C f x : Addr} {h : Heap} {ox : Obj} (X : K.In h) (e : neIn K C f = true) (hx : h.get? x = some ox) (hc : ox.cls = .ref C) : h.OwnEqNoNe x C f "object" [.type "object"] := by
  unfold neIn at e
  split at e
  · rename_i t dd cd sl ho
    obtain ⟨e0, e'⟩ := He.ba e
    clear e
    have et : t = "type" := of_decide_eq_true e0
    subst et
    split at e'
    · rename_i C' o k0 k1 k2 k3 n k5 hm hs
      obtain ⟨e1, f1⟩ := He.ba e'
      obtain ⟨e2, f2⟩ := He.ba f1
      obtain ⟨e3, f3⟩ := He.ba f2
      obtain ⟨e4, f4⟩ := He.ba f3
      obtain ⟨e5, f5⟩ := He.ba f4
      obtain ⟨e6, e7⟩ := He.ba f5
      have eC : C' = C := beq_iff_eq.mp e1
      subst eC
      have eo : o = "object" := of_decide_eq_true e2
      subst eo
      replace e5 := of_decide_eq_true e5
      replace e6 := of_decide_eq_true e6
      obtain ⟨nm, bs, mro, ns, qn, hd, sn, sub, ab, col, del⟩ := cd
      dsimp only at hm e3 e4 e5 e6
      have hdel : del = false := by simpa using e3
      subst hm hdel
      have hsl : sl = #[k0, k1, k2, k3, some (.builtin n), k5] := by
        obtain ⟨l⟩ := sl
        simp only at hs
        rw [hs]
      subst hsl
      cases hf : K.lookup f with
      | none => rw [hf] at e7; cases e7
      | some of =>
        rw [hf] at e7
        refine ⟨ox, of, nm, qn, ns, bs, hd, sn, sub, ab, col, dd, k0, k1, k2, k3, k5, n, _, _, hx, hc, X _ _ ho, .of_isNs (PySem.W.isNs_of_in X e4), ns_some_of X (.of_isNs (PySem.W.isNs_of_in X e4)) e5, X _ _ hf, of_decide_eq_true e7, PySem.F.cmp_object.mro, PySem.F.cmp_object.eq.lookup, PySem.W.nsMap_none_of_in X e4 e6⟩
    · cases e'
  · cases e
section
variable {X : Cx} {CX : CXT} {k : Nat} {f C : Addr} {sp : Sp} {E : XK}
def rOwnNe (C : Addr) (sp : Sp) (E : XK) : R2 := fun x y H Q => ∃ a dx fs b dy gs, x = .ref a ∧ H a = some (.ins C dx fs) ∧ y = .ref b ∧ H b = some (.ins C dy gs) ∧ sp [x, y] H (fun v H' => ∃ b, v = .bl b ∧ Q (.bl (!b)) H') E
theorem op_neI (F : FnR X.prog X.w X.K X.mg X.base CX k f sp) (hn : neIn X.K C f = true) (hr : Room (k + 1) X.A) (hx : Passes CX X E) : OpR X (compareOp .NotEq) (rOwnNe C sp E) := by
  intro pins s σ H x y v u Q I rx ry hq
  obtain ⟨a, dx, fs, b, dy, gs, rfl, ha, rfl, hb, q⟩ := hq
  cases rx
  cases ry
  obtain ⟨mA, J, _⟩ := ins_get I.hok ha
  obtain ⟨od, J, _⟩ := J.look
  obtain ⟨mB, J', _⟩ := ins_get I.hok hb
  obtain ⟨od', J', _⟩ := J'.look
  have U := neIn_of I.kIn hn J.at_ J.cls
  obtain ⟨hp, g, d, tk, os⟩ := s
  refine compareOp_ne_ownEq PySem.F.cmp_object U J'.at_ J'.cls (by have := hr.un; omega) ?_
  refine thn (run_sub (A := X.A.in1) (vs := [.ref a, .ref b]) ⟨hr.in1, rfl⟩ F hx I (.cons rfl (.cons rfl .nil)) q) fun r s' ⟨w, H', I', rw', b, eb, q'⟩ => ?_
  subst eb
  have er : r = .bool b := rw'
  subst er
  exact ⟨b, rfl, .bl (!b), H', I', rfl, q'⟩
theorem op_neM {ps : List Str} (M : MeB X.prog X.w X.K X.mg X.base CX k C "__eq__" ps sp) (hn : neIn X.K C (He.ma X.K C "__eq__") = true) (hr : Room (k + 1) X.A) (hx : Passes CX X E) : OpR X (compareOp .NotEq) (rOwnNe C sp E) := by
  obtain ⟨f, h1, h2, F⟩ := M.raw
  have ef : He.ma X.K C "__eq__" = f := by unfold He.ma; rw [h1]
  rw [ef] at hn
  exact op_neI F hn hr hx
/-! ### len(x), x an instance -/
def rLenI (C : Addr) (sp : Sp) (E : XK) : List V → Hp → VK → Prop := fun vs H Q => ∃ a dx fs, vs = [.ref a] ∧ H a = some (.ins C dx fs) ∧ sp [.ref a] H (fun v H' => ∃ n : Int, v = .int n ∧ 0 ≤ n ∧ n < 2 ^ 63 ∧ Q (.int n) H') E
theorem call_lenI {ps : List Str} (M : MeB X.prog X.w X.K X.mg X.base CX k C "__len__" ps sp) (hr : Room (k + 1) X.A) (hx : Passes CX X E) : CallR X (.builtin "len") (rLenI C sp E) := by
  intro pins s σ H vs us Q I r hq
  obtain ⟨a, dx, fs, rfl, ha, q⟩ := hq
  rw [Vals.ref1 r]
  obtain ⟨f, h1, h2, F⟩ := M.raw
  obtain ⟨mA, J, _⟩ := ins_get I.hok ha
  obtain ⟨od, J, _⟩ := J.look
  obtain ⟨m, hF⟩ := I.fr
  refine PySem.W.len_K hF I.ok.mod.kin J h1 h2 (thn (run_sub (A := X.A.in1) (vs := [.ref a]) ⟨hr.in1, rfl⟩ F hx I (.cons rfl .nil) q) fun r s' ⟨w, H', I', rw', n, en, h0, h3, q'⟩ => ?_)
  subst en
  obtain ⟨t, rfl⟩ := rw'
  exact ⟨⟨h0, h3⟩, .int n, H', I'.tok _, ⟨_, rfl⟩, q'⟩
end
/-! ### a property, a call of an instance -/
/-- the property f of the class at C: its getter's promise -/
structure PrB (P : Program) (w : World) (K : PySem.W.Frag) (mg : Str → Option Value) (base : Heap) (CX : CXT) (k : Nat) (C : Addr) (f : Str) (ps : List Str) (sp : Sp) : Prop where
  ex : ∃ (p g : Addr) (fd : FuncData), PropOf K C f p g ∧ Binds K fd ps [] ∧ FnOk P w K mg base CX k g fd ps sp
theorem pr_mk {fa : List He.Fa} {fn : List He.DefD} {gt : List PropD} {ex : PySem.W.Frag → Bool} {K : PySem.W.Frag} {mg : Str → Option Value} {P : Program} {w : World} {base : Heap} {N ps : List Str} {sp : Sp} {k : Nat} {c f q : Str} (st : Stmt) (S : Say fa fn gt ex K mg) (i : Nat) (hd : gt[i]? = some ⟨c, f, q, defArgs st, defBody st, defScope st⟩) (SC : FnScope N ps (defScope st))
    (hb : ∀ (kV doc pm : Value) (an : Option Addr) (cdv ct : Value) (us : List Value), us.length = ps.length → bindArgs (PySem.W.fnOf f q (defArgs st) (defBody st) (defScope st) .none kV doc pm an cdv ct) ⟨us, []⟩ = pure (ps.zip us))
    (len : ∀ vs H Q E, sp vs H Q E → vs.length = ps.length)
    (hbody : ∀ (f : Addr) (cdv : Value) (A : Around) (outer : List Env) (s : Shared) (H : Hp) (vs : List V) (Q : VK) (E : XK), Room k (A.deeper (envOfC q (defScope st) s.heap.objs.size f cdv)) → sp vs H Q E →
      ∃ t, PSs (cxOf CX0 P w K mg base N q (defScope st) f cdv A outer s H E).nox (defBody st) t ∧ t { nx := fun _ H' => Q .non H', rt := Q } (start N vs) H) : PrB P w K mg base CX0 (k + 1) (He.ga K c) f ps sp := by
  obtain ⟨h1, fd, F⟩ := S.prop i hd
  refine ⟨_, _, fd, h1, F.bindsN hb, ?_⟩
  refine F.ok SC len fun cdv A outer s H vs Q E hr h => ?_
  obtain ⟨t, h1, h2⟩ := hbody _ cdv A outer s H vs Q E hr h
  exact ⟨t, h1.nox, h2⟩
section
variable {X : Cx} {CX : CXT} {k : Nat} {C : Addr} {f : Str} {ps : List Str} {sp : Sp} {E : XK} {e fe : Expr} {es : List Expr} {pos : Pos} {ta tf : TE} {t : TA}
theorem pe_pr (M : PrB X.prog X.w X.K X.mg X.base CX k C f ps sp) (c : Cls X.K C) (hr : Room (k + 1) X.A) (hx : Passes CX X.nox E) (he : PE X e ta)
    (hab : attributeBase e f X.env (eval e X.env) = eval e X.env := by rfl) : PE X (.Attribute e f pos) (tProp C sp [] E ta) := by
  obtain ⟨p, g, fd, h1, h2, h3⟩ := M.ex
  exact pe_prop he c h1 h3 hr h2 .nil hx hab
def tCallI (C : Addr) (sp : Sp) (E : XK) (tf : TE) (t : TA) : TE := fun σ H Q => tf σ H fun y H1 => ∃ a, y = V.ref a ∧ t σ H1 fun vs H2 => (∃ dx fs, H2 a = some (.ins C dx fs)) ∧ sp (V.ref a :: vs) H2 Q E
theorem pe_callI (M : MeB X.prog X.w X.K X.mg X.base CX k C "__call__" ps sp) (hfi : PySem.W.fnIn X.K (He.ma X.K C "__call__") = true) (hr : Room k X.A) (hx : Passes CX X E) (hf : PE X fe tf) (ha : PA X (e :: es) t)
    (ht : eval (.Call fe (e :: es) [] pos) X.env = (do callWith pos (← eval fe X.env) [] (backTo pos (starEach (e :: es) X.env)) (backToKw pos (keywordEach [] X.env))) := by rfl)
    (he : starEach (e :: es) X.env = (false, eval e X.env) :: starEach es X.env := by rfl) (hpl : (backTo pos (starEach es X.env)).any (·.1) = false := by rfl) : PE X (.Call fe (e :: es) [] pos) (tCallI C sp E tf t) := by
  obtain ⟨g, h1, h2, F⟩ := M.raw
  have eg : He.ma X.K C "__call__" = g := by unfold He.ma; rw [h1]
  rw [eg] at hfi
  refine ⟨fun pins s σ H Q I h => ?_⟩
  refine Call_ (thn (hf.run pins s σ H _ I h) fun u s1 ⟨y, H1, I1, ry, a, ey, q⟩ => ?_) ht
  subst ey
  obtain rfl : u = Value.ref a := ry
  refine StX.callO_with (thn (ha.run pos pins s1 σ H1 _ I1 q) fun us s2 ⟨vs, H2, I2, r, hi, q2⟩ => ?_) he hpl
  have hi' : StX.InsC X H2 a C := .inr hi
  obtain ⟨ox, od, J, hd⟩ := StX.insC_at I2 hi'
  exact ⟨⟨C, ox, od, J, hd⟩, StX.run_callO ⟨h1, h2, hfi⟩ F hr hx I2 hi' r q2⟩
end
end Sr
namespace Sr
open PySem PySem.Spec PyProof.Rows L2
/-! ### isinstance(x, C), C an own class -/
def clsAt (K : PySem.W.Frag) (C : Addr) : Bool := decide (PySem.W.findIn K (.ref C) "__class__" = some (some (.builtin "object.__class__"))) && (decide (PySem.W.specialIn K (.builtin "object.__class__") "__get__" = some (some (.builtin "getset_descriptor.__get__"))) &&
  (decide (PySem.W.takesIn K (.builtin "object.__class__") = some true) && (decide (PySem.W.mroIn K C (.type "object") = some true) && (decide (PySem.W.kitOne K (.ref C) (.ref C) = some true) &&
  (decide (PySem.W.kitOne K (.type "tuple") (.ref C) = some false) && (decide (PySem.W.kitOne K (.type "int") (.ref C) = some false) && (decide (PySem.W.kitOne K (.type "NoneType") (.ref C) = some false) && (decide (PySem.W.kitOne K (.type "str") (.ref C) = some false) && (decide (PySem.W.kitOne K (.type "list") (.ref C) = some false) && decide (PySem.W.kitOne K (.type "bool") (.ref C) = some false))))))))))
/-- isinstance(x, C): an instance of C, or a value of a built-in kind -/
def rIsC (C : Addr) : List V → Hp → VK → Prop := fun xs H Q => ∃ x, xs = [x, .ref C] ∧ ((∃ a dx fs, x = .ref a ∧ H a = some (.ins C dx fs) ∧ Q (.bl true) H) ∨ (∃ k, kdOf x H = some k ∧ k ≠ .dct ∧ Q (.bl false) H))
theorem call_isC {X : Cx} {C : Addr} (c : Cls X.K C) (hC : clsAt X.K C = true) : CallR X (.builtin "isinstance") (rIsC C) := by
  intro pins s σ H xs us Q I r h
  obtain ⟨x, rfl, h⟩ := h
  unfold clsAt at hC
  simp only [Bool.and_eq_true, decide_eq_true_eq] at hC
  obtain ⟨h1, h2, h3, h4, h5, h6, h7, h8, h9, h10, h11⟩ := hC
  rcases h with ⟨a, dx, fs, rfl, ha, q⟩ | ⟨k, hk, hn, q⟩
  · exact call_isi pins s σ H _ us Q I r ⟨_, _, _, _, true, rfl, .own C, .base (.ins ha c h1 h2 h3 h4), h5, q⟩
  · refine call_isi pins s σ H _ us Q I r ⟨_, _, _, _, false, rfl, .own C, kdOf_ok hk, ?_, q⟩
    cases k with
    | int => exact h7
    | bl => exact h11
    | str => exact h9
    | non => exact h8
    | lst => exact h10
    | tup => exact h6
    | dct => exact absurd rfl hn
/-! iterators whose K is written out (inside of a comprehension the context's own K would carry its bound names) -/
theorem pi_listK {X : Cx} {tg l : Expr} {tl : TE} {K : PySem.W.Frag} (hK : X.K = K) (hl : PE X l tl) : PI X tg l (iList K tl) := by subst hK; exact pi_list hl
theorem pi_tupK {X : Cx} {tg l : Expr} {tl : TE} {K : PySem.W.Frag} (hK : X.K = K) (hl : PE X l tl) : PI X tg l (iTup K tl) := by subst hK; exact pi_tup hl
end Sr

namespace Sr
open PySem PySem.Spec PyProof.Rows L2
/-! ### in, not in: data among the items of a list or tuple -/
def rInD (K : PySem.W.Frag) (neg : Bool) : R2 := fun x y H Q => ∃ d xs, Dp K H x d ∧ (Dp K H y (.tuple xs) ∨ Dp K H y (.list xs)) ∧ d.canLay0 = true ∧ d.depth ≤ 8 ∧ PyData.canLayAll0 xs = true ∧
  Q (.bl (if neg then !(xs.any fun y => PyData.eqv y d) else xs.any fun y => PyData.eqv y d)) H
section
variable {X : Cx}
theorem op_inD (hu : X.A.units + 64 < cLine) : OpR X (compareOp .In) (rInD X.K false) := by
  intro pins s σ H x y v u Q I rx ry h
  obtain ⟨d, xs, hd, hy, c1, c2, c3, q⟩ := h
  obtain ⟨as, r1⟩ := Dp.reads I d x v hd rx
  have hu' : X.A.units + 1 + min (PyData.depthAll xs) d.depth < cLine := by
    have : min (PyData.depthAll xs) d.depth ≤ d.depth := Nat.min_le_right _ _
    omega
  rcases hy with hy | hy
  · obtain ⟨bs, r2⟩ := Dp.reads I _ y u hy ry
    exact SeqAt.in_tuple_reads r2 r1 c3 c1 hu' ⟨.bl _, H, I, rfl, q⟩
  · obtain ⟨bs, r2⟩ := Dp.reads I _ y u hy ry
    exact SeqAt.in_list_reads r2 r1 c3 c1 hu' ⟨.bl _, H, I, rfl, q⟩
theorem op_notInD (hu : X.A.units + 64 < cLine) : OpR X (compareOp .NotIn) (rInD X.K true) := by
  intro pins s σ H x y v u Q I rx ry h
  obtain ⟨d, xs, hd, hy, c1, c2, c3, q⟩ := h
  obtain ⟨as, r1⟩ := Dp.reads I d x v hd rx
  have hu' : X.A.units + 1 + min (PyData.depthAll xs) d.depth < cLine := by
    have : min (PyData.depthAll xs) d.depth ≤ d.depth := Nat.min_le_right _ _
    omega
  rcases hy with hy | hy
  · obtain ⟨bs, r2⟩ := Dp.reads I _ y u hy ry
    exact SeqAt.notIn_tuple_reads r2 r1 c3 c1 hu' ⟨.bl _, H, I, rfl, q⟩
  · obtain ⟨bs, r2⟩ := Dp.reads I _ y u hy ry
    exact SeqAt.notIn_list_reads r2 r1 c3 c1 hu' ⟨.bl _, H, I, rfl, q⟩
end
theorem dp_lst {K : PySem.W.Frag} {H : Hp} {a : Addr} {ns : List Int} (h : H a = some (.lst (List.map V.int ns))) : Dp K H (.ref a) (.list (ns.map PyData.int)) := .lst (.of h) (dpAll_ints ns)
theorem dp_tup {K : PySem.W.Frag} {H : Hp} {a : Addr} {ns : List Int} (h : H a = some (.tup (List.map V.int ns))) : Dp K H (.ref a) (.tuple (ns.map PyData.int)) := .tup (.of h) (dpAll_ints ns)
theorem lay_lst (ns : List Int) : PyData.canLay0 (.list (ns.map PyData.int)) = true := SeqAt.canLay_of_shaped (shaped_lst ns)
theorem lay_tup (ns : List Int) : PyData.canLay0 (.tuple (ns.map PyData.int)) = true := SeqAt.canLay_of_shaped (shaped_tup ns)
theorem depth_lst (ns : List Int) : PyData.depth (.list (ns.map PyData.int)) ≤ 8 := by
  have := depthAll_ints ns
  simp only [PyData.depth]; omega
theorem depth_tup (ns : List Int) : PyData.depth (.tuple (ns.map PyData.int)) ≤ 8 := by
  have := depthAll_ints ns
  simp only [PyData.depth]; omega
theorem eqv_lst (ns ms : List Int) : PyData.eqv (.list (ns.map PyData.int)) (.list (ms.map PyData.int)) = decide (ns = ms) := by rw [PyData.eqv, eqvAll_ints]
theorem eqv_tup (ns ms : List Int) : PyData.eqv (.tuple (ns.map PyData.int)) (.tuple (ms.map PyData.int)) = decide (ns = ms) := by rw [PyData.eqv, eqvAll_ints]
theorem walk_zipT {K : PySem.W.Frag} {a b : Addr} {xs ys : List V} {n : Nat} (hn : n = min xs.length ys.length) : Walk (RZ.ItzT K a b) n (fun H => SqT K H a xs ∧ SqT K H b ys) (YPair (fun i => xs[i]?) (fun i => ys[i]?)) := by
  subst hn
  refine ⟨fun i _ hi q => ?_, fun _ q => ⟨xs, ys, q.1, q.2, by omega⟩, fun i H v H' _ q y => ?_⟩
  · have h1 : i < xs.length := by omega
    have h2 : i < ys.length := by omega
    exact ⟨xs, ys, xs[i], ys[i], q.1, q.2, by simp [h1], by simp [h2]⟩
  · obtain ⟨T, x, z, h1, h2, h3, h4, h5⟩ := y
    exact ⟨T, x, z, h1, h2, h3, h4 xs q.1, h5 ys q.2⟩
theorem pg_tupK {X : Cx} {es : List Expr} {pos : Pos} {k : Nat} {t : TGs} {K : PySem.W.Frag} (n : Nat) (hK : X.K = K) (hc : X.calm = true) (h : PGs X es t)
    (hn : (assignEach es X.env).length = n := by rfl) (hst : (assignEach es X.env).findIdx? (·.1) = none := by rfl) : PG X (.Tuple es k pos) (gTup K n t) := by subst hK; exact pg_tup hc h hn hst
end Sr

namespace Sr
open PySem PySem.Spec PyProof.Rows L2
/-! ### tuples whose object is known -/
def tTupF (t : TA) : TE := fun σ H Q => t σ H fun xs H1 => xs.length ≤ sizeLine ∧ ∀ p o, H1 p = none → o.dict = none → Q (.ref p) (upd H1 p (.frz o (.tup xs)))
section
variable {X : Cx}
theorem pe_tupF {es : List Expr} {t : TA} {pos : Pos} {x1} (ha : PA X es t) : PE X (.Tuple es x1 pos) (tTupF t) := by
  constructor
  intro pins s σ H Q I hq
  refine wpAny_Tuple_spliced (thn (ha.run pos pins s σ H _ I hq) fun us s1 hh => ?_)
  obtain ⟨xs, H1, I1, rv, hz, hk⟩ := hh
  refine ⟨by rw [← rv.length]; exact hz, .ref s1.heap.objs.size, _, ?_, rfl, hk _ { cls := .type "tuple", data := .seq us.toArray } (I1.hok.fresh (Nat.le_refl _)) rfl⟩
  exact I1.laid (t' := s1.toks) (fun b u hb => Heap.get?_push_of_some _ hb) (Nat.le_refl _) ⟨Heap.get?_push_size _ rfl, hz, us, rv, ⟨_, Heap.get?_push_size _ rfl, rfl, _, rfl⟩⟩
def rTupF (K : PySem.W.Frag) : List V → Hp → VK → Prop := fun vs H Q => ∃ p ys, vs = [.ref p] ∧ SqL K H p ys ∧ ∀ l o, H l = none → o.dict = none → Q (.ref l) (upd H l (.frz o (.tup ys)))
theorem call_tupF : CallR X (.type "tuple") (rTupF X.K) := by
  intro pins s σ H vs us Q I rv hq
  obtain ⟨p, ys, rfl, hl, hk⟩ := hq
  obtain ⟨u, rfl, ru⟩ := vals1 rv
  cases ru
  obtain ⟨its, ri, pl, hz⟩ := I.list hl
  have hlen := ri.length
  refine call_tuple_list pl.isList (fun h' kp => ?_) (by simp only [List.size_toArray]; omega)
  have J : Inv X pins σ H { s with heap := h' } := I.kept (t' := s.toks) kp
  refine ⟨.ref h'.objs.size, _, ?_, rfl, hk _ { cls := .type "tuple", data := .seq its.toArray } (J.hok.fresh (Nat.le_refl _)) rfl⟩
  exact J.laid (t' := s.toks) (fun b o hb => Heap.get?_push_of_some _ hb) (Nat.le_refl _) ⟨Heap.get?_push_size _ rfl, hz, its, ri, IsTup.new _ _⟩
/-! ### dict(t), t a known tuple of pairs -/
def rDictF (K : PySem.W.Frag) : List V → Hp → VK → Prop := fun vs H Q => ∃ (a : Addr) (o : Obj) (ps : List Addr) (kvs : List (Key × V)), vs = [.ref a] ∧ H a = some (.frz o (.tup (ps.map V.ref))) ∧ o.dict = none ∧ Paired (fun p kv => SqT K H p [kV kv.1, kv.2]) ps kvs ∧
  ∀ p, H p = none → Q (.ref p) (upd H p (.dK (mergeK [] kvs)))
theorem call_dictF (hcalm : X.calm = true) : CallR X (.type "dict") (rDictF X.K) := by
  intro pins s σ H vs us Q I rv hq
  obtain ⟨a, o, ps, kvs, rfl, ha, hod, hp, hk⟩ := hq
  obtain ⟨u, rfl, ru⟩ := vals1 rv
  cases ru
  obtain ⟨ho, hz, its, ri, hT⟩ := I.hok a _ ha
  obtain ⟨o', ho', hc, n, hdat⟩ := hT
  rw [ho] at ho'
  cases ho'
  obtain rfl := refs_at ri
  obtain ⟨prs, rel, hl, hpr⟩ := pairs_of I hp
  rw [List.length_map] at hz
  have keyAt : ∀ j : Nat, ∃ kv : Value × Value, ∀ q : Key × Value, prs[j]? = some q → ∃ b, ps[j]? = some b ∧ IsTup s.heap b #[kv.1, kv.2] ∧ keyIs q.1 kv.1 = true ∧ kv.2 = q.2 := fun j => by
    cases q : prs[j]? with
    | none => exact ⟨(.none, .none), fun q z => nomatch z⟩
    | some q0 =>
      obtain ⟨b, v, e1, e2, e3⟩ := hpr j q0 q
      exact ⟨(v, q0.2), fun q' z => by cases z; exact ⟨b, e1, e2, e3, rfl⟩⟩
  let kvf : Nat → Value × Value := fun j => (keyAt j).choose
  have kvs_ := fun j => (keyAt j).choose_spec
  let pv : List (Value × Value) := (List.range prs.length).map kvf
  have pvAt : ∀ (j : Nat) (k v : Value), pv[j]? = some (k, v) → ∃ (q : Key × Value) (b : Addr), prs[j]? = some q ∧ ps[j]? = some b ∧ IsTup s.heap b #[k, v] ∧ keyIs q.1 k = true ∧ v = q.2 := fun j k v e => by
    have hj : j < prs.length := by
      have := (List.getElem?_eq_some_iff.mp e).1
      simpa [pv] using this
    have e' : kvf j = (k, v) := by
      simp only [pv, List.getElem?_map, List.getElem?_range hj, Option.map_some, Option.some.injEq] at e
      exact e
    obtain ⟨b, g1, g2, g3, g4⟩ := kvs_ j prs[j] (List.getElem?_eq_getElem hj)
    have e1 : (keyAt j).choose = (k, v) := e'
    rw [e1] at g2 g3 g4
    exact ⟨prs[j], b, List.getElem?_eq_getElem hj, g1, g2, g3, g4⟩
  have hlen : pv.length = prs.length := by simp [pv]
  refine PySem.call_dict_pairs (knd := mixKind X.prog X.w) (kvs := prs) (PairArg.tuple (prog := X.prog) (w := X.w) a (ps.map Value.ref).toArray (fun j => ps.getD j 0) pv) (I.ok.hd hcalm) ⟨⟨o, n, ho, hc, hod, hdat⟩, by simp [hlen, hl], fun j k v e => ?_⟩ ⟨hlen.symm, fun j k v e => ?_⟩ (by rw [hlen, hl]; exact hz) fun h' tk hd' k => ?_
  · obtain ⟨q, b, g1, g2, g3, _⟩ := pvAt j k v e
    have hb : ps.getD j 0 = b := by simp [List.getD, g2]
    dsimp only
    rw [hb]
    exact ⟨by simp [g2], .inl g3⟩
  · obtain ⟨q, b, g1, g2, g3, g4, g5⟩ := pvAt j k v e
    exact ⟨q.1, by rw [g1, g5], (show keyIs q.1 k = true from g4)⟩
  · have hm : (s.heap.objs.size == sysModules) = false := beq_eq_false_iff_ne.mpr (Nat.ne_of_gt I.big)
    have hln : (mergeK [] kvs).length ≤ sizeLine := by
      refine Nat.le_trans (length_mergeK kvs []) ?_
      rw [List.length_nil, Nat.zero_add, rel.length, hl]
      exact hz
    exact ⟨.ref s.heap.objs.size, upd H s.heap.objs.size (.dK (mergeK [] kvs)), I.laid (t' := tk) (fun b o e => k b o (by simp) e) (Nat.le_refl _) (show ObjOk X.prog X.w _ _ _ (.dK (mergeK [] kvs)) from ⟨hln, hm, merged [] prs, KV.merge rel .nil, hd'⟩), rfl, hk _ (I.hok.fresh (Nat.le_refl _))⟩
/-! ### sorted(d), d a dict whose keys are ints -/
def rSortedDI : List V → Hp → VK → Prop := fun vs H Q => ∃ (a : Addr) (kvs : List (Key × V)) (ks : List Int), vs = [.ref a] ∧ H a = some (.dK kvs) ∧ kvs.map (·.1) = ks.map Sum.inl ∧
  ∀ (ys : List Int) (p : Addr), ys.Perm ks → ys.Pairwise (· ≤ ·) → H p = none → Q (.ref p) (upd H p (.lst (ys.map V.int)))
theorem cr_sortedDI (hcalm : X.calm = true) : CallR X (.builtin "sorted") rSortedDI := by
  intro pins s σ H vs us Q I rv hq
  obtain ⟨a, kvs, ks, rfl, hd, hks, hk⟩ := hq
  obtain ⟨u, rfl, ru⟩ := vals1 rv
  cases ru
  obtain ⟨hz, hlo, ws, rel, dd⟩ := dk_rd I.hok (.inl hd)
  obtain ⟨ep, hat⟩ := dd.dictAt
  have hkeys : ws.map (·.1) = ks.map Sum.inl := rel.keys.symm.trans hks
  have hwl : ws.length = ks.length := by simpa using congrArg List.length hkeys
  have hkl : kvs.length = ks.length := by simpa using congrArg List.length hks
  have hw16 : ws.length ≤ sizeLine := by omega
  refine Calls.call_function_entry PyProof.Rows.kind_sorted PyProof.Rows.plain_sorted PyProof.Rows.entry_sorted (PyProof.Rows.args_sorted1 _) ?_
  unfold Builtin.«sorted»
  refine wpAny_bind (m := checkCount "sorted" 1 1 _) (wpAny_pure (wpAny_bind (PySem.W.kdu_collect (A := X.A.in1) (PySem.W.kdl_dict (knd := mixKind X.prog X.w) (kvs := ws) (ep := ep) hlo) (I.ok.hd hcalm) hat hw16 fun h' tk acc hkp hacc => ?_)))
  have hal : acc.toList.length = ks.length := by rw [Array.length_toList, hacc.1, hwl]
  have hI : IntsAre acc.toList ks := ints_each hal fun j v e => by
    obtain ⟨k, x, e1, e2⟩ := hacc.2 j v (by rw [← Array.getElem?_toList]; exact e)
    have e3 : (ws.map (·.1))[j]? = some k := by simp [List.getElem?_map, e1]
    rw [hkeys, List.getElem?_map] at e3
    obtain ⟨y, e4, e5⟩ := Option.map_eq_some_iff.mp e3
    subst e5
    rcases keyIs_shape (show keyIs (Sum.inl y) v = true from e2) with ⟨i, t, ek, ev⟩ | ⟨z, t, ek, ev⟩
    · cases ek; exact ⟨y, t, e4, ev⟩
    · cases ek
  have J : Inv X pins σ H { s with heap := h', toks := tk } := I.kept hkp
  have hsz : acc.toList.length ≤ sizeLine := by omega
  refine wpAny_bind (wpAny_newList ?_ hsz)
  have hoL : (h'.push (seqObj "list" acc.toList.toArray 0)).get? h'.objs.size = some (seqObj "list" acc.toList.toArray 0) := Heap.get?_push_size _ rfl
  show wpAny _ _ _ _ _ { s with heap := h'.push (seqObj "list" acc.toList.toArray 0), toks := tk }
  refine wpAny_bind (wpAny_holding (wpAny_call_entry PyProof.Rows.slot_list_sort ⟨_, hoL, rfl⟩ PyProof.Rows.entry_list_sort
    (SrtO.list_sort_ord (s := { s with heap := h'.push (seqObj "list" acc.toList.toArray 0), toks := tk }) SrtO.swo_int hoL hsz (fun h2 => SrtO.ints_sortable hI h2) fun out g1 g2 => ⟨_, rfl, ?_⟩) (PyProof.Rows.args_list_sort _)))
  obtain ⟨k1, k2, k3⟩ := SrtO.ints_out hI g1 g2
  obtain ⟨e', he'⟩ := PyProof.Rows.sortedHeap_at (vs := acc.toList) (out := out.toArray) hoL
  have hln : ((out.map SrtO.iv).map V.int).length ≤ sizeLine := by
    rw [List.length_map, k2.length_eq]; omega
  refine wpAny_pure ⟨_, rfl, .ref h'.objs.size, upd H h'.objs.size (.lst ((out.map SrtO.iv).map V.int)), J.laid (t' := tk) (fun b u e => ?_) (Nat.le_refl _)
    (show ObjOk X.prog X.w _ _ _ (.lst ((out.map SrtO.iv).map V.int)) from ⟨hln, out, e', vals_of_ints k1, he'⟩), rfl, hk _ _ k2 k3 (J.hok.fresh (Nat.le_refl _))⟩
  have hb : b < h'.objs.size := Heap.lt_size e
  rw [PyProof.Rows.sortedHeap_old (Nat.ne_of_lt hb) (by rw [size_push']; exact Nat.lt_succ_of_lt hb)]
  exact Heap.get?_push_of_some _ e
end
end Sr

namespace Pv
open PySem PySem.Spec PyProof.Rows L2 Sr
/-! ### pure data -/
inductive D where
  | non | bl (b : Bool) | int (i : Int) | str (x : Str)
  | tup (xs : List D) | lst (xs : List D)
  /-- a tuple whose object is known (the arms of a rig) -/
  | arm (xs : List D)
  | ins (c : Str) (fs : List (Str × D))
  | dic (kvs : List (Key × D)) | dit (kvs : List (List Key × D))
  | loc (n : Nat) | ty (n : String) | cls (c : Str)
def D.isLoc : D → Bool
  | .loc _ => true
  | _ => false
abbrev PEnv := List (Option D)
abbrev Rs := List D
mutual
/-- v stands for the data; its cells lie in F, its mutable cells are numbered by S -/
inductive Rep (K : PySem.W.Frag) (F : Hp) : V → D → Prop
  | non : Rep K F .non .non
  | bl (b : Bool) : Rep K F (.bl b) (.bl b)
  | int (i : Int) : Rep K F (.int i) (.int i)
  | str (x : Str) : Rep K F (.str x) (.str x)
  | tup {a : Addr} {vs : List V} {ds : List D} : F a = some (.tup vs) → Reps K F vs ds → Rep K F (.ref a) (.tup ds)
  | lst {a : Addr} {vs : List V} {ds : List D} : F a = some (.lst vs) → Reps K F vs ds → Rep K F (.ref a) (.lst ds)
  | arm {a : Addr} {o : Obj} {vs : List V} {ds : List D} : F a = some (.frz o (.tup vs)) → o.dict = none → Reps K F vs ds → Rep K F (.ref a) (.arm ds)
  | ins {a dx : Addr} {c : Str} {fs : List (Str × V)} {gs : List (Str × D)} : F a = some (.ins (He.ga K c) dx fs) → fs.map (·.1) = gs.map (·.1) → Reps K F (fs.map (·.2)) (gs.map (·.2)) → Rep K F (.ref a) (.ins c gs)
  | dic {a : Addr} {fs : List (Key × V)} {gs : List (Key × D)} : F a = some (.dK fs) → fs.map (·.1) = gs.map (·.1) → Reps K F (fs.map (·.2)) (gs.map (·.2)) → Rep K F (.ref a) (.dic gs)
  | dit {a : Addr} {fs : List (List Key × V)} {gs : List (List Key × D)} : F a = some (.dT fs) → fs.map (·.1) = gs.map (·.1) → Reps K F (fs.map (·.2)) (gs.map (·.2)) → Rep K F (.ref a) (.dit gs)
  | ty (n : String) : Rep K F (.ty n) (.ty n)
  | cls (c : Str) : Rep K F (.ref (He.ga K c)) (.cls c)
inductive Reps (K : PySem.W.Frag) (F : Hp) : List V → List D → Prop
  | nil : Reps K F [] []
  | cons {v : V} {d : D} {vs : List V} {ds : List D} : Rep K F v d → Reps K F vs ds → Reps K F (v :: vs) (d :: ds)
end
/-- a cell's contents stand for the data -/
inductive RepO (K : PySem.W.Frag) (F : Hp) : HO → D → Prop
  | lst {vs : List V} {ds : List D} : Reps K F vs ds → RepO K F (.lst vs) (.lst ds)
  | ins {dx : Addr} {c : Str} {fs : List (Str × V)} {gs : List (Str × D)} : fs.map (·.1) = gs.map (·.1) → Reps K F (fs.map (·.2)) (gs.map (·.2)) → RepO K F (.ins (He.ga K c) dx fs) (.ins c gs)
  | dic {fs : List (Key × V)} {gs : List (Key × D)} : fs.map (·.1) = gs.map (·.1) → Reps K F (fs.map (·.2)) (gs.map (·.2)) → RepO K F (.dK fs) (.dic gs)
  | dit {fs : List (List Key × V)} {gs : List (List Key × D)} : fs.map (·.1) = gs.map (·.1) → Reps K F (fs.map (·.2)) (gs.map (·.2)) → RepO K F (.dT fs) (.dit gs)
section
variable {K : PySem.W.Frag} {F F' : Hp}
theorem pre_get {S S' : List Addr} (h : S <+: S') {n : Nat} {a : Addr} (e : S[n]? = some a) : S'[n]? = some a := by
  obtain ⟨t, rfl⟩ := h
  rw [List.getElem?_append_left (List.getElem?_eq_some_iff.mp e).1]; exact e
mutual
theorem Rep.mono (hf : Same F F') : ∀ {v : V} {d : D}, Rep K F v d → Rep K F' v d
  | _, _, .non => .non
  | _, _, .bl b => .bl b
  | _, _, .int i => .int i
  | _, _, .str x => .str x
  | _, _, .tup h r => .tup (hf _ _ h) (Reps.mono hf r)
  | _, _, .lst h r => .lst (hf _ _ h) (Reps.mono hf r)
  | _, _, .arm h e r => .arm (hf _ _ h) e (Reps.mono hf r)
  | _, _, .ins h e r => .ins (hf _ _ h) e (Reps.mono hf r)
  | _, _, .dic h e r => .dic (hf _ _ h) e (Reps.mono hf r)
  | _, _, .dit h e r => .dit (hf _ _ h) e (Reps.mono hf r)
  | _, _, .ty n => .ty n
  | _, _, .cls c => .cls c
theorem Reps.mono (hf : Same F F') : ∀ {vs : List V} {ds : List D}, Reps K F vs ds → Reps K F' vs ds
  | _, _, .nil => .nil
  | _, _, .cons h r => .cons (Rep.mono hf h) (Reps.mono hf r)
end
theorem RepO.mono (hf : Same F F') {o : HO} {d : D} (h : RepO K F o d) : RepO K F' o d := by
  cases h with
  | lst r => exact .lst (r.mono hf)
  | ins e r => exact .ins e (r.mono hf)
  | dic e r => exact .dic e (r.mono hf)
  | dit e r => exact .dit e (r.mono hf)
theorem Reps.length : ∀ {vs : List V} {ds : List D}, Reps K F vs ds → vs.length = ds.length
  | _, _, .nil => rfl
  | _, _, .cons _ r => by simp [Reps.length r]
theorem Reps.append : ∀ {vs ws : List V} {ds es : List D}, Reps K F vs ds → Reps K F ws es → Reps K F (vs ++ ws) (ds ++ es)
  | _, _, _, _, .nil, h => h
  | _, _, _, _, .cons h r, q => .cons h (Reps.append r q)
theorem Reps.take : ∀ {vs : List V} {ds : List D} (n : Nat), Reps K F vs ds → Reps K F (vs.take n) (ds.take n)
  | _, _, 0, _ => .nil
  | _, _, _ + 1, .nil => .nil
  | _, _, n + 1, .cons h r => .cons h (Reps.take n r)
theorem Reps.drop : ∀ {vs : List V} {ds : List D} (n : Nat), Reps K F vs ds → Reps K F (vs.drop n) (ds.drop n)
  | _, _, 0, r => r
  | _, _, _ + 1, .nil => .nil
  | _, _, n + 1, .cons h r => Reps.drop n r
theorem Reps.get : ∀ {vs : List V} {ds : List D} {i : Nat} {d : D}, Reps K F vs ds → ds[i]? = some d → ∃ v, vs[i]? = some v ∧ Rep K F v d
  | _, _, _, _, .nil, e => by simp at e
  | _, _, 0, _, .cons h _, e => by simp at e; subst e; exact ⟨_, rfl, h⟩
  | _, _, i + 1, d, .cons _ r, e => by
    obtain ⟨v, h1, h2⟩ := Reps.get (i := i) (d := d) r (by simpa using e)
    exact ⟨v, by simpa using h1, h2⟩
theorem Reps.getV : ∀ {vs : List V} {ds : List D} {i : Nat} {v : V}, Reps K F vs ds → vs[i]? = some v → ∃ d, ds[i]? = some d ∧ Rep K F v d
  | _, _, _, _, .nil, e => by simp at e
  | _, _, 0, _, .cons h _, e => by simp at e; subst e; exact ⟨_, rfl, h⟩
  | _, _, i + 1, d, .cons _ r, e => by
    obtain ⟨v, h1, h2⟩ := Reps.getV (i := i) (v := d) r (by simpa using e)
    exact ⟨v, by simpa using h1, h2⟩
theorem Reps.set {v : V} {d : D} (h : Rep K F v d) : ∀ {vs : List V} {ds : List D} (i : Nat), Reps K F vs ds → Reps K F (vs.set i v) (ds.set i d)
  | _, _, _, .nil => .nil
  | _, _, 0, .cons _ r => .cons h r
  | _, _, i + 1, .cons q r => .cons q (Reps.set h i r)
theorem Reps.rev : ∀ {vs : List V} {ds : List D}, Reps K F vs ds → Reps K F vs.reverse ds.reverse
  | _, _, .nil => .nil
  | _, _, .cons h r => by
    rw [List.reverse_cons, List.reverse_cons]
    exact (Reps.rev r).append (.cons h .nil)
theorem Reps.ints : ∀ ns : List Int, Reps K F (ns.map V.int) (ns.map D.int)
  | [] => .nil
  | n :: r => .cons (.int n) (Reps.ints r)
theorem Reps.of_ints : ∀ {vs : List V} {ns : List Int}, Reps K F vs (ns.map D.int) → vs = ns.map V.int
  | _, [], .nil => rfl
  | _, n :: r, .cons h q => by
    cases h
    rw [Reps.of_ints q]; rfl
end
/-- a slot's value: data, or a mutable cell -/
def RepV (K : PySem.W.Frag) (S : List Addr) (F : Hp) (v : V) (d : D) : Prop := Rep K F v d ∨ ∃ n a, d = .loc n ∧ v = .ref a ∧ S[n]? = some a
theorem RepV.rep {K : PySem.W.Frag} {S : List Addr} {F : Hp} {v : V} {d : D} (h : RepV K S F v d) (hl : d.isLoc = false) : Rep K F v d := by
  rcases h with h | ⟨n, a, rfl, _⟩
  · exact h
  · cases hl
theorem RepV.mono {K : PySem.W.Frag} {S S' : List Addr} {F F' : Hp} (hs : S <+: S') (hf : Same F F') {v : V} {d : D} (h : RepV K S F v d) : RepV K S' F' v d := by
  rcases h with h | ⟨n, a, e1, e2, e3⟩
  · exact .inl (h.mono hf)
  · exact .inr ⟨n, a, e1, e2, pre_get hs e3⟩
/-! ### outcomes -/
inductive Res (α : Type) where
  | ok (a : α) (R : Rs)
  | exc (c : Str) (fs : List (Str × D)) (R : Rs)
  | bad
def Res.bind {α β : Type} (r : Res α) (k : α → Rs → Res β) : Res β := match r with
  | .ok a R => k a R
  | .exc c fs R => .exc c fs R
  | .bad => .bad
@[simp] theorem Res.bind_ok {α β : Type} (a : α) (R : Rs) (k : α → Rs → Res β) : (Res.ok a R).bind k = k a R := rfl
@[simp] theorem Res.bind_exc {α β : Type} (c : Str) (fs : List (Str × D)) (R : Rs) (k : α → Rs → Res β) : (Res.exc c fs R : Res α).bind k = .exc c fs R := rfl
@[simp] theorem Res.bind_bad {α β : Type} (k : α → Rs → Res β) : (Res.bad : Res α).bind k = .bad := rfl
/-- the mutable cells hold R -/
structure Cells (K : PySem.W.Frag) (S : List Addr) (F H : Hp) (R : Rs) : Prop where
  len : S.length = R.length
  at_ : ∀ (i : Nat) (a : Addr) (d : D), S[i]? = some a → R[i]? = some d → F a = none ∧ ∃ o, H a = some o ∧ RepO K F o d
  nd : S.Nodup
/-- the state goes on: S and F grow, what is not a mutable cell stays, what was not frozen is not -/
structure Ext (S : List Addr) (F H : Hp) (S' : List Addr) (F' H' : Hp) : Prop where
  s : S <+: S'
  f : Same F F'
  fh : Same F' H'
  fr : ∀ b u, H b = some u → b ∉ S → H' b = some u
  th : ∀ b u, H b = some u → ∃ u', H' b = some u'
  nw : ∀ b u, H b = some u → F b = none → F' b = none
  sn : ∀ b ∈ S', b ∉ S → H b = none
section
variable {K : PySem.W.Frag} {S S1 S2 : List Addr} {F F1 F2 H H1 H2 : Hp} {R : Rs}
theorem Ext.refl (h : Same F H) : Ext S F H S F H := ⟨List.prefix_refl _, .refl F, h, fun _ _ h _ => h, fun b u h => ⟨u, h⟩, fun _ _ _ h => h, fun b h1 h2 => absurd h1 h2⟩
theorem Ext.trans (a : Ext S F H S1 F1 H1) (b : Ext S1 F1 H1 S2 F2 H2) : Ext S F H S2 F2 H2 where
  s := a.s.trans b.s
  f := a.f.trans b.f
  fh := b.fh
  fr := fun c u h hc => b.fr c u (a.fr c u h hc) fun z => by rw [a.sn c z hc] at h; cases h
  th := fun c u h => by
    obtain ⟨u', h'⟩ := a.th c u h
    exact b.th c u' h'
  nw := fun c u h n => by
    obtain ⟨u', h'⟩ := a.th c u h
    exact b.nw c u' h' (a.nw c u h n)
  sn := fun c h1 h2 => by
    by_cases hc : c ∈ S1
    · exact a.sn c hc h2
    · have := b.sn c h1 hc
      cases q : H c with
      | none => rfl
      | some u =>
        obtain ⟨u', h'⟩ := a.th c u q
        rw [this] at h'; cases h'
theorem Ext.rep (e : Ext S F H S1 F1 H1) {v : V} {d : D} (h : Rep K F v d) : Rep K F1 v d := h.mono e.f
theorem Ext.reps (e : Ext S F H S1 F1 H1) {v : List V} {d : List D} (h : Reps K F v d) : Reps K F1 v d := h.mono e.f
/-- a new frozen cell -/
theorem Ext.new (hs : Same F H) {p : Addr} {o : HO} (hp : H p = none) : Ext S F H S (upd F p o) (upd H p o) := by
  have fp : F p = none := hs.free hp
  refine ⟨List.prefix_refl _, same_upd fp, fun b u e => ?_, fun b u h _ => by rw [upd_ne (ne_of_none h hp)]; exact h, fun b u h => ⟨u, by rw [upd_ne (ne_of_none h hp)]; exact h⟩, fun b u h n => by rw [upd_ne (ne_of_none h hp)]; exact n, fun b h1 h2 => absurd h1 h2⟩
  by_cases hb : b = p
  · subst hb; rw [upd_same] at e ⊢; exact e
  · rw [upd_ne hb] at e ⊢; exact hs b u e
/-- a new cell that is not frozen -/
theorem Ext.newO (hs : Same F H) {p : Addr} {o : HO} (hp : H p = none) : Ext S F H S F (upd H p o) :=
  ⟨List.prefix_refl _, .refl F, hs.new hp, fun b u h _ => by rw [upd_ne (ne_of_none h hp)]; exact h, fun b u h => ⟨u, by rw [upd_ne (ne_of_none h hp)]; exact h⟩, fun b u h n => n, fun b h1 h2 => absurd h1 h2⟩
/-- a cell outside is changed or laid -/
theorem Cells.upd (c : Cells K S F H R) {p : Addr} {o : HO} (hp : p ∉ S) : Cells K S F (upd H p o) R :=
  ⟨c.len, fun i a d h1 h2 => by
    obtain ⟨n, u, h3, h4⟩ := c.at_ i a d h1 h2
    have hne : a ≠ p := fun z => hp (by rw [← z]; exact List.mem_of_getElem? h1)
    exact ⟨n, u, by rw [upd_ne hne]; exact h3, h4⟩, c.nd⟩
theorem Cells.has (c : Cells K S F H R) {b : Addr} (hb : b ∈ S) : F b = none ∧ ∃ o, H b = some o := by
  obtain ⟨i, hi, rfl⟩ := List.mem_iff_getElem.mp hb
  have h2 : i < R.length := by rw [← c.len]; exact hi
  obtain ⟨n, o, h3, _⟩ := c.at_ i S[i] R[i] (List.getElem?_eq_getElem hi) (List.getElem?_eq_getElem h2)
  exact ⟨n, o, h3⟩
theorem Cells.fresh (c : Cells K S F H R) {p : Addr} (hp : H p = none) : p ∉ S := fun z => by
  obtain ⟨_, o, h⟩ := c.has z
  rw [hp] at h; cases h
/-- the frozen part grows by what is no cell -/
theorem Cells.froz (c : Cells K S F H R) (hf : Same F F1) (hn : ∀ b ∈ S, F1 b = none) : Cells K S F1 H R :=
  ⟨c.len, fun i a d h1 h2 => by
    obtain ⟨n, u, h3, h4⟩ := c.at_ i a d h1 h2
    exact ⟨hn a (List.mem_of_getElem? h1), u, h3, h4.mono hf⟩, c.nd⟩
theorem Cells.new (c : Cells K S F H R) (hs : Same F H) {p : Addr} {o : HO} (hp : H p = none) : Cells K S (L2.upd F p o) (L2.upd H p o) R :=
  (c.upd (c.fresh hp)).froz (same_upd (hs.free hp)) fun b hb => by
    obtain ⟨n, u, h⟩ := c.has hb
    rw [upd_ne (ne_of_none h hp)]; exact n
end
/-! ### readings -/
/-- the slots, by pure data; F is frozen, S are the mutable cells -/
structure View (K : PySem.W.Frag) (S : List Addr) (F H : Hp) (ρ : PEnv) (R : Rs) (σ : L2.St) : Prop where
  fh : Same F H
  env : ∀ (i : Nat) (d : D), ρ[i]? = some (some d) → ∃ v, σ[i]? = some (some v) ∧ RepV K S F v d
  cells : Cells K S F H R
  len : ρ.length = σ.length
/-- an exception with these attributes -/
inductive ExcAt (K : PySem.W.Frag) (S : List Addr) (F H : Hp) : List (Str × D) → Option Addr → Prop
  | no : ExcAt K S F H [] none
  | at_ {a : Addr} {fs : List (Str × V)} {gs : List (Str × D)} : H a = some (.xd fs) → fs.map (·.1) = gs.map (·.1) → Reps K F (fs.map (·.2)) (gs.map (·.2)) → ExcAt K S F H gs (some a)
/-- what is wanted of an outcome -/
def Wp {α β : Type} (K : PySem.W.Frag) (E : XK) (rep : List Addr → Hp → β → α → Prop) (S : List Addr) (F H : Hp) (r : Res α) (Q : β → Hp → Prop) : Prop := match r with
  | .ok a R' => ∀ b S' F' H', Ext S F H S' F' H' → Cells K S' F' H' R' → rep S' F' b a → Q b H'
  | .exc c fs R' => ∀ d S' F' H', Ext S F H S' F' H' → Cells K S' F' H' R' → ExcAt K S' F' H' fs d → E (.ref (He.ga K c)) d H'
  | .bad => False
section
variable {α β γ δ : Type} {K : PySem.W.Frag} {E : XK} {rep : List Addr → Hp → β → α → Prop} {rep' : List Addr → Hp → δ → γ → Prop} {S S1 : List Addr} {F H F1 H1 : Hp} {R : Rs} {ρ : PEnv} {σ : L2.St}
theorem Wp.ext {r : Res α} {Q : β → Hp → Prop} (h : Wp K E rep S F H r Q) (e : Ext S F H S1 F1 H1) : Wp K E rep S1 F1 H1 r Q := by
  cases r with
  | ok a R' => exact fun b S' F' H' e' c r => h b S' F' H' (e.trans e') c r
  | exc c fs R' => exact fun d S' F' H' e' c r => h d S' F' H' (e.trans e') c r
  | bad => exact h
theorem Wp.imp {r : Res α} {Q Q' : β → Hp → Prop} (h : Wp K E rep S F H r Q) (k : ∀ b H', Q b H' → Q' b H') : Wp K E rep S F H r Q' := by
  cases r with
  | ok a R' => exact fun b S' F' H' e' c r => k _ _ (h b S' F' H' e' c r)
  | exc c fs R' => exact h
  | bad => exact h
/-- one after another -/
theorem Wp.bind {r : Res α} {k : α → Rs → Res γ} {Q : δ → Hp → Prop} {Q1 : β → Hp → Prop} (h : Wp K E rep' S F H (r.bind k) Q)
    (hq : ∀ b S1 F1 H1 a R1, Ext S F H S1 F1 H1 → Cells K S1 F1 H1 R1 → rep S1 F1 b a → Wp K E rep' S1 F1 H1 (k a R1) Q → Q1 b H1) : Wp K E rep S F H r Q1 := by
  cases r with
  | ok a R' => exact fun b S' F' H' e' c r => hq b S' F' H' a R' e' c r (Wp.ext h e')
  | exc c fs R' => exact h
  | bad => exact h
theorem Wp.now {a : α} {b : β} {Q : β → Hp → Prop} (h : Wp K E rep S F H (.ok a R) Q) (hs : Same F H) (c : Cells K S F H R) (r : rep S F b a) : Q b H := h b S F H (.refl hs) c r
theorem View.ext (v : View K S F H ρ R σ) {R1 : Rs} (e : Ext S F H S1 F1 H1) (c : Cells K S1 F1 H1 R1) : View K S1 F1 H1 ρ R1 σ :=
  ⟨e.fh, fun i d h => by
    obtain ⟨u, h1, h2⟩ := v.env i d h
    exact ⟨u, h1, h2.mono e.s e.f⟩, c, v.len⟩
end
/-- an expression's reading by a function of the slots' data -/
def tG {α β : Type} (K : PySem.W.Frag) (E : XK) (rep : List Addr → Hp → β → α → Prop) (g : PEnv → Rs → Res α) : L2.St → Hp → (β → Hp → Prop) → Prop := fun σ H Q =>
  ∃ S F ρ R, View K S F H ρ R σ ∧ Wp K E rep S F H (g ρ R) Q
abbrev tP (K : PySem.W.Frag) (E : XK) (g : PEnv → Rs → Res D) : TE := tG K E (fun _ F v d => Rep K F v d) g
abbrev tPA (K : PySem.W.Frag) (E : XK) (g : PEnv → Rs → Res (List D)) : TA := tG K E (fun _ F v d => Reps K F v d) g
abbrev tPT (K : PySem.W.Frag) (E : XK) (g : PEnv → Rs → Res Bool) : TT := tG K E (fun _ _ (v : Bool) d => v = d) g
abbrev Ev (X : Cx) (E : XK) (e : Expr) (g : PEnv → Rs → Res D) : Prop := PE X e (tP X.K E g)
abbrev EvA (X : Cx) (E : XK) (es : List Expr) (g : PEnv → Rs → Res (List D)) : Prop := PA X es (tPA X.K E g)
abbrev EvT (X : Cx) (E : XK) (e : Expr) (g : PEnv → Rs → Res Bool) : Prop := PT X e (tPT X.K E g)
abbrev EvW (X : Cx) (E : XK) (e : Expr) (g : PEnv → Rs → Res Bool) : Prop := PW X e (tPT X.K E g)
theorem pe_imp {X : Cx} {e : Expr} {t t' : TE} (h : PE X e t) (k : ∀ σ H Q, t' σ H Q → t σ H Q) : PE X e t' := ⟨fun pins s σ H Q I q => h.run pins s σ H Q I (k σ H Q q)⟩
theorem pa_imp {X : Cx} {e : List Expr} {t t' : TA} (h : PA X e t) (k : ∀ σ H Q, t' σ H Q → t σ H Q) : PA X e t' := ⟨fun pos pins s σ H Q I q => h.run pos pins s σ H Q I (k σ H Q q)⟩
theorem pt_imp {X : Cx} {e : Expr} {t t' : TT} (h : PT X e t) (k : ∀ σ H Q, t' σ H Q → t σ H Q) : PT X e t' := ⟨fun pins s σ H Q I q => h.run pins s σ H Q I (k σ H Q q)⟩
theorem pw_imp {X : Cx} {e : Expr} {t t' : TT} (h : PW X e t) (k : ∀ σ H Q, t' σ H Q → t σ H Q) : PW X e t' := ⟨fun w pins s σ H Q I q => h.run w pins s σ H Q I (k σ H Q q)⟩
theorem ps_imp {X : Cx} {e : Stmt} {t t' : TS} (h : PS X e t) (k : ∀ D σ H, t' D σ H → t D σ H) : PS X e t' := ⟨fun pins s σ H D I q => h.run pins s σ H D I (k D σ H q)⟩
theorem pss_imp {X : Cx} {e : List Stmt} {t t' : TS} (h : PSs X e t) (k : ∀ D σ H, t' D σ H → t D σ H) : PSs X e t' := ⟨fun pins s σ H D I q => h.run pins s σ H D I (k D σ H q)⟩
theorem pi_imp {X : Cx} {tg e : Expr} {t t' : TI} (h : PI X tg e t) (k : ∀ σ H R, t' σ H R → t σ H R) : PI X tg e t' := ⟨fun pins s σ H R I q => h.run pins s σ H R I (k σ H R q)⟩
/-- a reading goes on with the next one in the same slots -/
theorem tG_then {α β : Type} {K : PySem.W.Frag} {E : XK} {rep : List Addr → Hp → β → α → Prop} {g : PEnv → Rs → Res α} {S : List Addr} {F H : Hp} {ρ : PEnv} {R : Rs} {σ : L2.St} {Q : β → Hp → Prop} (v : View K S F H ρ R σ) (h : Wp K E rep S F H (g ρ R) Q) : tG K E rep g σ H Q := ⟨S, F, ρ, R, v, h⟩
end Pv

namespace Pv
open PySem PySem.Spec PyProof.Rows L2 Sr
abbrev G := PEnv → Rs → Res D
abbrev GA := PEnv → Rs → Res (List D)
abbrev GT := PEnv → Rs → Res Bool
/-! ### names, constants -/
def gVar (i : Nat) : G := fun ρ R => match ρ[i]? with
  | some (some d) => if d.isLoc then .bad else .ok d R
  | _ => .bad
def gC (d : D) : G := fun _ R => .ok d R
section
variable {X : Cx} {E : XK} {a b c e : Expr} {es : List Expr} {ga gb gc g : G} {gs : GA} {pos : Pos}
theorem ev_var {i : Nat} (h : PE X e (tVar i)) : Ev X E e (gVar i) := pe_imp h fun σ H Q ⟨S, F, ρ, R, v, h⟩ => by
  unfold gVar at h
  split at h
  · rename_i d hd
    obtain ⟨u, h1, h2⟩ := v.env i d hd
    split at h
    · exact h.elim
    · rename_i hl
      exact ⟨u, h1, h.now v.fh v.cells (h2.rep (by simpa using hl))⟩
  · exact h.elim
theorem ev_cst {v : V} {d : D} (h : PE X e (tC v)) (r : ∀ F, Rep X.K F v d) : Ev X E e (gC d) := pe_imp h fun σ H Q ⟨S, F, ρ, R, v, h⟩ => h.now v.fh v.cells (r F)
theorem ev_int {i : Int} (h : PE X e (tC (.int i))) : Ev X E e (gC (.int i)) := ev_cst h fun _ => .int i
theorem ev_str {i : Str} (h : PE X e (tC (.str i))) : Ev X E e (gC (.str i)) := ev_cst h fun _ => .str i
theorem ev_bl {i : Bool} (h : PE X e (tC (.bl i))) : Ev X E e (gC (.bl i)) := ev_cst h fun _ => .bl i
theorem ev_non (h : PE X e (tC .non)) : Ev X E e (gC .non) := ev_cst h fun _ => .non
/-! ### operators of two values -/
def OpD (K : PySem.W.Frag) (E : XK) (r : R2) (f : D → D → Rs → Res D) : Prop :=
  ∀ (S : List Addr) (F H : Hp) (R : Rs) (x y : V) (dx dy : D) (Q : VK), Same F H → Cells K S F H R → Rep K F x dx → Rep K F y dy → Wp K E (fun _ F v d => Rep K F v d) S F H (f dx dy R) Q → r x y H Q
def gOp (f : D → D → Rs → Res D) (ga gb : G) : G := fun ρ R => (ga ρ R).bind fun x R1 => (gb ρ R1).bind fun y R2 => f x y R2
theorem tOp_of {K : PySem.W.Frag} {r : R2} {f : D → D → Rs → Res D} (hd : OpD K E r f) {σ : L2.St} {H : Hp} {Q : VK} (h : tP K E (gOp f ga gb) σ H Q) : tOp r (tP K E ga) (tP K E gb) σ H Q := by
  obtain ⟨S, F, ρ, R, v, h⟩ := h
  refine ⟨S, F, ρ, R, v, Wp.bind h fun x S1 F1 H1 dx R1 e1 c1 rx h1 => ?_⟩
  refine ⟨S1, F1, ρ, R1, v.ext e1 c1, Wp.bind h1 fun y S2 F2 H2 dy R2 e2 c2 ry h2 => ?_⟩
  exact hd S2 F2 H2 R2 x y dx dy Q e2.fh c2 (e2.rep rx) ry h2
theorem ev_op {op : Operator} {r : R2} {f : D → D → Rs → Res D} (ho : OpR X (binaryOp op) r ∧ OpD X.K E r f) (ha : Ev X E a ga) (hb : Ev X E b gb) : Ev X E (.BinOp a op b pos) (gOp f ga gb) := pe_imp (pe_op ho.1 ha hb) fun _ _ _ => tOp_of ho.2
theorem ev_cmp {op : CmpOp} {r : R2} {f : D → D → Rs → Res D} (ho : OpR X (compareOp op) r ∧ OpD X.K E r f) (ha : Ev X E a ga) (hb : Ev X E b gb) (hm : behindInMarks op b = false) : Ev X E (.Compare a [op] [b] pos) (gOp f ga gb) := pe_imp (pe_cmpR ho.1 ha hb hm) fun _ _ _ => tOp_of ho.2
theorem ev_ix {r : R2} {f : D → D → Rs → Res D} (ho : IxR X r ∧ OpD X.K E r f) (ha : Ev X E a ga) (hb : Ev X E b gb) (hs : PlainIx b) : Ev X E (.Subscript a b pos) (gOp f ga gb) := pe_imp (pe_ix ho.1 ha hb hs) fun _ _ _ => tOp_of ho.2
/-- operators of ints -/
def iop (C : Int → Int → Prop) [∀ i j, Decidable (C i j)] (g : Int → Int → D) : D → D → Rs → Res D := fun x y R => match x, y with
  | .int i, .int j => if C i j then .ok (g i j) R else .bad
  | _, _ => .bad
def iop0 (g : Int → Int → D) : D → D → Rs → Res D := fun x y R => match x, y with
  | .int i, .int j => .ok (g i j) R
  | _, _ => .bad
theorem opd_i {K : PySem.W.Frag} {C : Int → Int → Prop} [∀ i j, Decidable (C i j)] {g : Int → Int → D} {g' : Int → Int → V} (hg : ∀ F i j, Rep K F (g' i j) (g i j)) : OpD K E (rI C g') (iop C g) := by
  intro S F H R x y dx dy Q hs c rx ry h
  unfold iop at h
  split at h
  · split at h
    · cases rx; cases ry
      rename_i i j hc
      exact ⟨i, j, rfl, rfl, hc, h.now hs c (hg F i j)⟩
    · exact h.elim
  · exact h.elim
theorem opd_i0 {K : PySem.W.Frag} {g : Int → Int → D} {g' : Int → Int → V} (hg : ∀ F i j, Rep K F (g' i j) (g i j)) : OpD K E (rI0 g') (iop0 g) := by
  intro S F H R x y dx dy Q hs c rx ry h
  unfold iop0 at h
  split at h
  · cases rx; cases ry
    rename_i i j
    exact ⟨i, j, rfl, rfl, h.now hs c (hg F i j)⟩
  · exact h.elim
instance (i j : Int) : Decidable (CMul i j) := by unfold CMul; infer_instance
instance (i j : Int) : Decidable (CMulW i j) := by unfold CMulW; infer_instance
instance (i j : Int) : Decidable (CDiv i j) := by unfold CDiv; infer_instance
instance (i j : Int) : Decidable (CDivW i j) := by unfold CDivW; infer_instance
instance (i j : Int) : Decidable (CPow i j) := by unfold CPow; infer_instance
def dAdd := iop0 fun i j => .int (i + j)
def dSub := iop0 fun i j => .int (i - j)
def dMul := iop CMul fun i j => .int (i * j)
def dFdiv := iop CDiv fun i j => .int (i / j)
def dMod := iop (fun _ j => 0 < j) fun i j => .int (i % j)
def dPow := iop CPow fun i j => .int (i ^ j.toNat)
def dLt := iop0 fun i j => .bl (decide (i < j))
def dLe := iop0 fun i j => .bl (decide (i ≤ j))
def dGt := iop0 fun i j => .bl (decide (j < i))
def dGe := iop0 fun i j => .bl (decide (j ≤ i))
theorem o_add : OpR X (binaryOp .Add) (rI0 fun i j => .int (i + j)) ∧ OpD X.K E (rI0 fun i j => .int (i + j)) dAdd := ⟨op_add, opd_i0 fun _ _ _ => .int _⟩
theorem o_sub : OpR X (binaryOp .Sub) (rI0 fun i j => .int (i - j)) ∧ OpD X.K E (rI0 fun i j => .int (i - j)) dSub := ⟨op_sub, opd_i0 fun _ _ _ => .int _⟩
theorem o_mul : OpR X (binaryOp .Mult) (rI CMul fun i j => .int (i * j)) ∧ OpD X.K E (rI CMul fun i j => .int (i * j)) dMul := ⟨op_mul, opd_i fun _ _ _ => .int _⟩
theorem o_fdiv : OpR X (binaryOp .FloorDiv) (rI CDiv fun i j => .int (i / j)) ∧ OpD X.K E (rI CDiv fun i j => .int (i / j)) dFdiv := ⟨op_fdiv, opd_i fun _ _ _ => .int _⟩
theorem o_mod : OpR X (binaryOp .Mod) (rI (fun _ j => 0 < j) fun i j => .int (i % j)) ∧ OpD X.K E (rI (fun _ j => 0 < j) fun i j => .int (i % j)) dMod := ⟨op_mod, opd_i fun _ _ _ => .int _⟩
theorem o_pow : OpR X (binaryOp .Pow) (rI CPow fun i j => .int (i ^ j.toNat)) ∧ OpD X.K E (rI CPow fun i j => .int (i ^ j.toNat)) dPow := ⟨op_pow, opd_i fun _ _ _ => .int _⟩
theorem o_lt : OpR X (compareOp .Lt) (rI0 fun i j => .bl (decide (i < j))) ∧ OpD X.K E (rI0 fun i j => .bl (decide (i < j))) dLt := ⟨op_lt, opd_i0 fun _ _ _ => .bl _⟩
theorem o_le : OpR X (compareOp .LtE) (rI0 fun i j => .bl (decide (i ≤ j))) ∧ OpD X.K E (rI0 fun i j => .bl (decide (i ≤ j))) dLe := ⟨op_le, opd_i0 fun _ _ _ => .bl _⟩
theorem o_gt : OpR X (compareOp .Gt) (rI0 fun i j => .bl (decide (j < i))) ∧ OpD X.K E (rI0 fun i j => .bl (decide (j < i))) dGt := ⟨op_gt, opd_i0 fun _ _ _ => .bl _⟩
theorem o_ge : OpR X (compareOp .GtE) (rI0 fun i j => .bl (decide (j ≤ i))) ∧ OpD X.K E (rI0 fun i j => .bl (decide (j ≤ i))) dGe := ⟨op_ge, opd_i0 fun _ _ _ => .bl _⟩
/-- == of scalars of one kind -/
def dEqS (neg : Bool) : D → D → Rs → Res D := fun x y R => match x, y with
  | .int i, .int j => .ok (.bl (neg ^^ decide (i = j))) R
  | .bl i, .bl j => .ok (.bl (neg ^^ decide (i = j))) R
  | .str i, .str j => .ok (.bl (neg ^^ decide (i = j))) R
  | .non, .non => .ok (.bl (neg ^^ true)) R
  | _, _ => .bad
theorem opd_eqS {K : PySem.W.Frag} : OpD K E rEq (dEqS false) := by
  intro S F H R x y dx dy Q hs c rx ry h
  unfold dEqS at h
  split at h
  · cases rx; cases ry; exact ⟨rfl, by simpa using h.now hs c (.bl _)⟩
  · cases rx; cases ry; exact ⟨rfl, by simpa using h.now hs c (.bl _)⟩
  · cases rx; cases ry; exact ⟨rfl, by simpa using h.now hs c (.bl _)⟩
  · cases rx; cases ry; exact ⟨rfl, by simpa using h.now hs c (.bl _)⟩
  · exact h.elim
theorem opd_neS {K : PySem.W.Frag} : OpD K E rNe (dEqS true) := by
  intro S F H R x y dx dy Q hs c rx ry h
  unfold dEqS at h
  split at h
  · cases rx; cases ry; exact ⟨rfl, by simpa using h.now hs c (.bl _)⟩
  · cases rx; cases ry; exact ⟨rfl, by simpa using h.now hs c (.bl _)⟩
  · cases rx; cases ry; exact ⟨rfl, by simpa using h.now hs c (.bl _)⟩
  · cases rx; cases ry; exact ⟨rfl, by simpa using h.now hs c (.bl _)⟩
  · exact h.elim
theorem o_eqS : OpR X (compareOp .Eq) rEq ∧ OpD X.K E rEq (dEqS false) := ⟨op_eq, opd_eqS⟩
theorem o_neS : OpR X (compareOp .NotEq) rNe ∧ OpD X.K E rNe (dEqS true) := ⟨op_ne, opd_neS⟩
/-! ### one value -/
def UnD (K : PySem.W.Frag) (E : XK) (r : V → Hp → VK → Prop) (f : D → Rs → Res D) : Prop :=
  ∀ (S : List Addr) (F H : Hp) (R : Rs) (x : V) (dx : D) (Q : VK), Same F H → Cells K S F H R → Rep K F x dx → Wp K E (fun _ F v d => Rep K F v d) S F H (f dx R) Q → r x H Q
def gUn (f : D → Rs → Res D) (ga : G) : G := fun ρ R => (ga ρ R).bind f
theorem ev_un {op : UnaryOp} {r : V → Hp → VK → Prop} {f : D → Rs → Res D} (ho : UnR X (unaryOp op) r ∧ UnD X.K E r f) (ha : Ev X E a ga) : Ev X E (.UnaryOp op a pos) (gUn f ga) := pe_imp (pe_un ho.1 ha) fun σ H Q ⟨S, F, ρ, R, v, h⟩ =>
  ⟨S, F, ρ, R, v, Wp.bind h fun x S1 F1 H1 dx R1 e1 c1 rx h1 => ho.2 S1 F1 H1 R1 x dx Q e1.fh c1 rx h1⟩
def dNeg : D → Rs → Res D := fun x R => match x with
  | .int i => .ok (.int (-i)) R
  | _ => .bad
def dNot : D → Rs → Res D := fun x R => match x with
  | .bl b => .ok (.bl (!b)) R
  | _ => .bad
theorem ev_not (ha : Ev X E a ga) : Ev X E (.UnaryOp .Not a pos) (gUn dNot ga) := pe_imp (pe_not ha) fun σ H Q ⟨S, F, ρ, R, v, h⟩ => by
  refine ⟨S, F, ρ, R, v, Wp.bind h fun x S1 F1 H1 dx R1 e1 c1 rx h1 => ?_⟩
  unfold dNot at h1
  split at h1
  · cases rx
    exact ⟨_, rfl, h1.now e1.fh c1 (.bl _)⟩
  · exact h1.elim
def dIsN (neg : Bool) : D → Rs → Res D := fun x R => match x with
  | .non => .ok (.bl (!neg)) R
  | _ => .ok (.bl neg) R
theorem isN_of {K : PySem.W.Frag} {F : Hp} {x : V} {d : D} (h : Rep K F x d) : decide (x = .non) = (match d with | .non => true | _ => false) := by
  cases h <;> simp
theorem ev_isN {j : Nat} {pos' : Pos} (ha : Ev X E a ga) : Ev X E (.Compare a [.Is] [.Constant .none j pos'] pos) (gUn (dIsN false) ga) := pe_imp (pe_cmp (pc_isN ha) rfl) fun σ H Q ⟨S, F, ρ, R, v, h⟩ => by
  refine ⟨S, F, ρ, R, v, Wp.bind h fun x S1 F1 H1 dx R1 e1 c1 rx h1 => ?_⟩
  have e := isN_of rx
  show Q (.bl (decide (x = .non))) H1
  rw [e]
  cases dx <;> exact h1.now e1.fh c1 (.bl _)
theorem ev_notN {j : Nat} {pos' : Pos} (ha : Ev X E a ga) : Ev X E (.Compare a [.IsNot] [.Constant .none j pos'] pos) (gUn (dIsN true) ga) := pe_imp (pe_cmp (pc_notN ha) rfl) fun σ H Q ⟨S, F, ρ, R, v, h⟩ => by
  refine ⟨S, F, ρ, R, v, Wp.bind h fun x S1 F1 H1 dx R1 e1 c1 rx h1 => ?_⟩
  have e := isN_of rx
  show Q (.bl (!decide (x = .non))) H1
  rw [e]
  cases dx <;> exact h1.now e1.fh c1 (.bl _)
end
end Pv

namespace Pv
open PySem PySem.Spec PyProof.Rows L2 Sr
theorem Res.assoc {α β γ : Type} (r : Res α) (k : α → Rs → Res β) (l : β → Rs → Res γ) : (r.bind k).bind l = r.bind fun a R => (k a R).bind l := by cases r <;> rfl
def bOf : D → Rs → Res Bool := fun d R => match d with
  | .bl b => .ok b R
  | _ => .bad
def gB (ga : G) : GT := fun ρ R => (ga ρ R).bind bOf
def gV (t : GT) : G := fun ρ R => (t ρ R).bind fun b R => .ok (.bl b) R
def gAnd (t u : GT) : GT := fun ρ R => (t ρ R).bind fun b R => match b with
  | true => u ρ R
  | false => .ok false R
def gOr (t u : GT) : GT := fun ρ R => (t ρ R).bind fun b R => match b with
  | true => .ok true R
  | false => u ρ R
def gNot (t : GT) : GT := fun ρ R => (t ρ R).bind fun b R => .ok (!b) R
def gIf {α : Type} (t : GT) (ga gb : PEnv → Rs → Res α) : PEnv → Rs → Res α := fun ρ R => (t ρ R).bind fun b R => match b with
  | true => ga ρ R
  | false => gb ρ R
def gAndV (ga gb : G) : G := fun ρ R => (ga ρ R).bind fun x R => match x with
  | .bl true => gb ρ R
  | .bl false => .ok (.bl false) R
  | _ => .bad
def gOrV (ga gb : G) : G := fun ρ R => (ga ρ R).bind fun x R => match x with
  | .bl true => .ok (.bl true) R
  | .bl false => gb ρ R
  | _ => .bad
section
variable {X : Cx} {E : XK} {a b c e : Expr} {es rest : List Expr} {ga gb gc g : G} {gs : GA} {t u w : GT} {pos : Pos}
theorem ev_neg (ha : Ev X E a ga) : Ev X E (.UnaryOp .USub a pos) (gUn dNeg ga) := ev_un ⟨un_neg, fun S F H R x dx Q hs c rx h => by
  unfold dNeg at h
  split at h
  · cases rx; exact ⟨_, rfl, h.now hs c (.int _)⟩
  · exact h.elim⟩ ha
theorem tB_of {K : PySem.W.Frag} {σ : L2.St} {H : Hp} {Q : Bool → Hp → Prop} (h : tPT K E (gB ga) σ H Q) : tP K E ga σ H fun x H1 => ∃ c, x = .bl c ∧ Q c H1 := by
  obtain ⟨S, F, ρ, R, v, h⟩ := h
  refine ⟨S, F, ρ, R, v, Wp.bind h fun x S1 F1 H1 dx R1 e1 c1 rx h1 => ?_⟩
  unfold bOf at h1
  split at h1
  · cases rx; exact ⟨_, rfl, h1.now e1.fh c1 rfl⟩
  · exact h1.elim
theorem evt_val (h : Ev X E e g) (he : ∀ whole, isTrue e X.env whole = (do let v ← whole; standAt e.pos; holding [v] (truthy v)) := by intro _; rfl) : EvT X E e (gB g) := pt_imp (pt_val h he) fun _ _ _ => tB_of
theorem evt_cmp {op : CmpOp} {r : R2} {f : D → D → Rs → Res D} (ho : OpR X (compareOp op) r ∧ OpD X.K E r f) (ha : Ev X E a ga) (hb : Ev X E b gb) (hm : behindInMarks op b = false) : EvT X E (.Compare a [op] [b] pos) (gB (gOp f ga gb)) := pt_imp (pt_cmpR ho.1 ha hb hm) fun σ H Q h => by
  obtain ⟨S, F, ρ, R, v, h⟩ := h
  have e0 : gB (gOp f ga gb) ρ R = (ga ρ R).bind fun x R1 => (gb ρ R1).bind fun y R2 => (f x y R2).bind bOf := by
    unfold gB gOp
    rw [Res.assoc]
    congr 1; funext x R1
    rw [Res.assoc]
  rw [e0] at h
  refine ⟨S, F, ρ, R, v, Wp.bind h fun x S1 F1 H1 dx R1 e1 c1 rx h1 => ?_⟩
  refine ⟨S1, F1, ρ, R1, v.ext e1 c1, Wp.bind h1 fun y S2 F2 H2 dy R2 e2 c2 ry h2 => ?_⟩
  refine ho.2 S2 F2 H2 R2 x y dx dy _ e2.fh c2 (e2.rep rx) ry (Wp.bind h2 fun z S3 F3 H3 dz R3 e3 c3 rz h3 => ?_)
  unfold bOf at h3
  split at h3
  · cases rz; exact ⟨_, rfl, h3.now e3.fh c3 rfl⟩
  · exact h3.elim
theorem evt_isN {j : Nat} {pos' : Pos} (ha : Ev X E a ga) : EvT X E (.Compare a [.Is] [.Constant .none j pos'] pos) (gB (gUn (dIsN false) ga)) := pt_imp (pt_cmp (pc_isN ha) rfl) fun σ H Q ⟨S, F, ρ, R, v, h⟩ => by
  have e0 : gB (gUn (dIsN false) ga) ρ R = (ga ρ R).bind fun x R => (dIsN false x R).bind bOf := by unfold gB gUn; cases ga ρ R <;> rfl
  rw [e0] at h
  refine ⟨S, F, ρ, R, v, Wp.bind h fun x S1 F1 H1 dx R1 e1 c1 rx h1 => ?_⟩
  refine ⟨_, rfl, ?_⟩
  rw [isN_of rx]
  cases dx <;> exact h1.now e1.fh c1 rfl
theorem evt_notN {j : Nat} {pos' : Pos} (ha : Ev X E a ga) : EvT X E (.Compare a [.IsNot] [.Constant .none j pos'] pos) (gB (gUn (dIsN true) ga)) := pt_imp (pt_cmp (pc_notN ha) rfl) fun σ H Q ⟨S, F, ρ, R, v, h⟩ => by
  have e0 : gB (gUn (dIsN true) ga) ρ R = (ga ρ R).bind fun x R => (dIsN true x R).bind bOf := by unfold gB gUn; cases ga ρ R <;> rfl
  rw [e0] at h
  refine ⟨S, F, ρ, R, v, Wp.bind h fun x S1 F1 H1 dx R1 e1 c1 rx h1 => ?_⟩
  refine ⟨_, rfl, ?_⟩
  rw [isN_of rx]
  cases dx <;> exact h1.now e1.fh c1 rfl
theorem tAnd_of {K : PySem.W.Frag} {σ : L2.St} {H : Hp} {Q : Bool → Hp → Prop} (h : tPT K E (gAnd t u) σ H Q) : tAnd (tPT K E t) (tPT K E u) σ H Q := by
  obtain ⟨S, F, ρ, R, v, h⟩ := h
  refine ⟨S, F, ρ, R, v, Wp.bind h fun x S1 F1 H1 dx R1 e1 c1 rx h1 => ?_⟩
  subst rx
  cases x with
  | true => exact ⟨S1, F1, ρ, R1, v.ext e1 c1, h1⟩
  | false => exact h1.now e1.fh c1 rfl
theorem tOr_of {K : PySem.W.Frag} {σ : L2.St} {H : Hp} {Q : Bool → Hp → Prop} (h : tPT K E (gOr t u) σ H Q) : tOr (tPT K E t) (tPT K E u) σ H Q := by
  obtain ⟨S, F, ρ, R, v, h⟩ := h
  refine ⟨S, F, ρ, R, v, Wp.bind h fun x S1 F1 H1 dx R1 e1 c1 rx h1 => ?_⟩
  subst rx
  cases x with
  | false => exact ⟨S1, F1, ρ, R1, v.ext e1 c1, h1⟩
  | true => exact h1.now e1.fh c1 rfl
theorem evt_not (h : EvT X E e t) : EvT X E (.UnaryOp .Not e pos) (gNot t) := pt_imp (pt_not h) fun σ H Q ⟨S, F, ρ, R, v, h⟩ => by
  refine ⟨S, F, ρ, R, v, Wp.bind h fun x S1 F1 H1 dx R1 e1 c1 rx h1 => ?_⟩
  subst rx
  exact h1.now e1.fh c1 rfl
theorem evw_and1 (h : EvT X E a t) : EvW X E (.BoolOp .And [a] pos) t := pw_and1 h
theorem evw_or1 (h : EvT X E a t) : EvW X E (.BoolOp .Or [a] pos) t := pw_or1 h
theorem evw_and (h : EvT X E a t) (q : EvW X E (.BoolOp .And (b :: rest) pos) u) : EvW X E (.BoolOp .And (a :: b :: rest) pos) (gAnd t u) := pw_imp (pw_and h q) fun _ _ _ => tAnd_of
theorem evw_or (h : EvT X E a t) (q : EvW X E (.BoolOp .Or (b :: rest) pos) u) : EvW X E (.BoolOp .Or (a :: b :: rest) pos) (gOr t u) := pw_imp (pw_or h q) fun _ _ _ => tOr_of
theorem evt_w (h : EvW X E e t) : EvT X E e t := h.pt
theorem ev_one {op : BoolOp} (h : Ev X E a ga) : Ev X E (.BoolOp op [a] pos) ga := pe_one h
theorem ev_and (h : Ev X E a ga) (q : Ev X E (.BoolOp .And (b :: rest) pos) gb) : Ev X E (.BoolOp .And (a :: b :: rest) pos) (gAndV ga gb) := pe_imp (pe_and h q) fun σ H Q ⟨S, F, ρ, R, v, h⟩ => by
  refine ⟨S, F, ρ, R, v, Wp.bind h fun x S1 F1 H1 dx R1 e1 c1 rx h1 => ?_⟩
  split at h1
  · cases rx; exact ⟨_, rfl, ⟨S1, F1, ρ, R1, v.ext e1 c1, h1⟩⟩
  · cases rx; exact ⟨_, rfl, h1.now e1.fh c1 (.bl _)⟩
  · exact h1.elim
theorem ev_or (h : Ev X E a ga) (q : Ev X E (.BoolOp .Or (b :: rest) pos) gb) : Ev X E (.BoolOp .Or (a :: b :: rest) pos) (gOrV ga gb) := pe_imp (pe_or h q) fun σ H Q ⟨S, F, ρ, R, v, h⟩ => by
  refine ⟨S, F, ρ, R, v, Wp.bind h fun x S1 F1 H1 dx R1 e1 c1 rx h1 => ?_⟩
  split at h1
  · cases rx; exact ⟨_, rfl, h1.now e1.fh c1 (.bl _)⟩
  · cases rx; exact ⟨_, rfl, ⟨S1, F1, ρ, R1, v.ext e1 c1, h1⟩⟩
  · exact h1.elim
theorem ev_if (hc : EvT X E c t) (h : Ev X E a ga) (q : Ev X E b gb) : Ev X E (.IfExp c a b pos) (gIf t ga gb) := pe_imp (pe_ifExp hc h q) fun σ H Q ⟨S, F, ρ, R, v, h⟩ => by
  refine ⟨S, F, ρ, R, v, Wp.bind h fun x S1 F1 H1 dx R1 e1 c1 rx h1 => ?_⟩
  subst rx
  cases x with
  | true => exact ⟨S1, F1, ρ, R1, v.ext e1 c1, h1⟩
  | false => exact ⟨S1, F1, ρ, R1, v.ext e1 c1, h1⟩
theorem evt_if (hc : EvT X E c t) (h : EvT X E a u) (q : EvT X E b w) : EvT X E (.IfExp c a b pos) (gIf t u w) := pt_imp (Sr.pt_ifExp hc h q) fun σ H Q ⟨S, F, ρ, R, v, h⟩ => by
  refine ⟨S, F, ρ, R, v, Wp.bind h fun x S1 F1 H1 dx R1 e1 c1 rx h1 => ?_⟩
  subst rx
  cases x with
  | true => exact ⟨S1, F1, ρ, R1, v.ext e1 c1, h1⟩
  | false => exact ⟨S1, F1, ρ, R1, v.ext e1 c1, h1⟩
/-- a op b op' c -/
def gCh (f f' : D → D → Rs → Res D) (ga gb gc : G) : G := fun ρ R => (ga ρ R).bind fun x R1 => (gb ρ R1).bind fun y R2 => (f x y R2).bind fun z R3 => match z with
  | .bl true => (gc ρ R3).bind fun w R4 => f' y w R4
  | .bl false => .ok (.bl false) R3
  | _ => .bad
theorem ev_chain {op op' : CmpOp} {r r' : R2} {f f' : D → D → Rs → Res D} (ho : OpR X (compareOp op) r ∧ OpD X.K E r f) (ho' : OpR X (compareOp op') r' ∧ OpD X.K E r' f') (ha : Ev X E a ga) (hb : Ev X E b gb) (hc : Ev X E c gc)
    (hm : lastMarks [op, op'] [b, c] = false := by with_unfolding_all rfl) : Ev X E (.Compare a [op, op'] [b, c] pos) (gCh f f' ga gb gc) := pe_imp (pe_chain ho.1 ho'.1 ha hb hc hm) fun σ H Q ⟨S, F, ρ, R, v, h⟩ => by
  refine ⟨S, F, ρ, R, v, Wp.bind h fun x S1 F1 H1 dx R1 e1 c1 rx h1 => ?_⟩
  refine ⟨S1, F1, ρ, R1, v.ext e1 c1, Wp.bind h1 fun y S2 F2 H2 dy R2 e2 c2 ry h2 => ?_⟩
  refine ho.2 S2 F2 H2 R2 x y dx dy _ e2.fh c2 (e2.rep rx) ry (Wp.bind h2 fun z S3 F3 H3 dz R3 e3 c3 rz h3 => ?_)
  split at h3
  · cases rz
    refine ⟨_, rfl, ⟨S3, F3, ρ, R3, ((v.ext e1 c1).ext e2 c2).ext e3 c3, Wp.bind h3 fun w S4 F4 H4 dw R4 e4 c4 rw h4 => ?_⟩⟩
    exact ho'.2 S4 F4 H4 R4 y w dy dw Q e4.fh c4 (e4.rep (e3.rep ry)) rw h4
  · cases rz; exact ⟨_, rfl, h3.now e3.fh c3 (.bl _)⟩
  · exact h3.elim
theorem evt_chain {op op' : CmpOp} {r r' : R2} {f f' : D → D → Rs → Res D} (ho : OpR X (compareOp op) r ∧ OpD X.K E r f) (ho' : OpR X (compareOp op') r' ∧ OpD X.K E r' f') (ha : Ev X E a ga) (hb : Ev X E b gb) (hc : Ev X E c gc)
    (hm : lastMarks [op, op'] [b, c] = false := by with_unfolding_all rfl) : EvT X E (.Compare a [op, op'] [b, c] pos) (gB (gCh f f' ga gb gc)) := pt_imp (pt_chain ho.1 ho'.1 ha hb hc hm) fun σ H Q ⟨S, F, ρ, R, v, h⟩ => by
  have e0 : gB (gCh f f' ga gb gc) ρ R = (ga ρ R).bind fun x R1 => (gb ρ R1).bind fun y R2 => (f x y R2).bind fun z R3 => match z with
      | .bl true => (gc ρ R3).bind fun w R4 => (f' y w R4).bind bOf
      | .bl false => .ok false R3
      | _ => .bad := by
    unfold gB gCh
    cases ga ρ R with
    | ok x R1 =>
      simp only [Res.bind_ok]
      cases gb ρ R1 with
      | ok y R2 =>
        simp only [Res.bind_ok]
        cases f x y R2 with
        | ok z R3 =>
          simp only [Res.bind_ok]
          split
          · cases gc ρ R3 <;> rfl
          · rfl
          · rfl
        | exc c fs R => rfl
        | bad => rfl
      | exc c fs R => rfl
      | bad => rfl
    | exc c fs R => rfl
    | bad => rfl
  rw [e0] at h
  refine ⟨S, F, ρ, R, v, Wp.bind h fun x S1 F1 H1 dx R1 e1 c1 rx h1 => ?_⟩
  refine ⟨S1, F1, ρ, R1, v.ext e1 c1, Wp.bind h1 fun y S2 F2 H2 dy R2 e2 c2 ry h2 => ?_⟩
  refine ho.2 S2 F2 H2 R2 x y dx dy _ e2.fh c2 (e2.rep rx) ry (Wp.bind h2 fun z S3 F3 H3 dz R3 e3 c3 rz h3 => ?_)
  split at h3
  · cases rz
    refine ⟨_, rfl, ⟨S3, F3, ρ, R3, ((v.ext e1 c1).ext e2 c2).ext e3 c3, Wp.bind h3 fun w S4 F4 H4 dw R4 e4 c4 rw h4 => ?_⟩⟩
    refine ho'.2 S4 F4 H4 R4 y w dy dw _ e4.fh c4 (e4.rep (e3.rep ry)) rw (Wp.bind h4 fun z S5 F5 H5 dz R5 e5 c5 rz h5 => ?_)
    unfold bOf at h5
    split at h5
    · cases rz; exact ⟨_, rfl, h5.now e5.fh c5 rfl⟩
    · exact h5.elim
  · cases rz; exact ⟨_, rfl, _, rfl, h3.now e3.fh c3 rfl⟩
  · exact h3.elim
/-! ### argument lists, displays -/
def gNil : GA := fun _ R => .ok [] R
def gCons (ga : G) (gs : GA) : GA := fun ρ R => (ga ρ R).bind fun x R1 => (gs ρ R1).bind fun xs R2 => .ok (x :: xs) R2
def itemsOf : D → Rs → Res (List D) := fun x R => match x with
  | .tup xs => .ok xs R
  | .lst xs => .ok xs R
  | .arm xs => .ok xs R
  | _ => .bad
def gStar (ga : G) (gs : GA) : GA := fun ρ R => (ga ρ R).bind fun x R1 => (itemsOf x R1).bind fun xs R1 => (gs ρ R1).bind fun ys R2 => .ok (xs ++ ys) R2
theorem eva_nil : EvA X E [] gNil := pa_imp pa_nil fun σ H Q ⟨S, F, ρ, R, v, h⟩ => h.now v.fh v.cells .nil
theorem eva_cons (h : Ev X E e g) (hs : EvA X E es gs) (h0 : starEach (e :: es) X.env = (false, eval e X.env) :: starEach es X.env := by rfl) : EvA X E (e :: es) (gCons g gs) := pa_imp (pa_cons h hs h0) fun σ H Q ⟨S, F, ρ, R, v, h⟩ => by
  refine ⟨S, F, ρ, R, v, Wp.bind h fun x S1 F1 H1 dx R1 e1 c1 rx h1 => ?_⟩
  refine ⟨S1, F1, ρ, R1, v.ext e1 c1, Wp.bind h1 fun y S2 F2 H2 dy R2 e2 c2 ry h2 => ?_⟩
  exact h2.now e2.fh c2 (.cons (e2.rep rx) ry)
theorem eva_star {p : Pos} (h : Ev X E e g) (hs : EvA X E es gs) (h0 : starEach (.Starred e p :: es) X.env = (true, eval e X.env) :: starEach es X.env := by rfl) : EvA X E (.Starred e p :: es) (gStar g gs) := pa_imp (StX.pa_star h hs h0) fun σ H Q ⟨S, F, ρ, R, v, h⟩ => by
  refine ⟨S, F, ρ, R, v, Wp.bind h fun x S1 F1 H1 dx R1 e1 c1 rx h1 => ?_⟩
  unfold itemsOf at h1
  split at h1
  · cases rx with
    | tup hf rs =>
    refine ⟨_, _, rfl, .inl (SqT.of (e1.fh _ _ hf)), ⟨S1, F1, ρ, R1, v.ext e1 c1, Wp.bind h1 fun y S2 F2 H2 dy R2 e2 c2 ry h2 => ?_⟩⟩
    exact h2.now e2.fh c2 ((e2.reps rs).append ry)
  · cases rx with
    | lst hf rs =>
    refine ⟨_, _, rfl, .inr (SqL.of (e1.fh _ _ hf)), ⟨S1, F1, ρ, R1, v.ext e1 c1, Wp.bind h1 fun y S2 F2 H2 dy R2 e2 c2 ry h2 => ?_⟩⟩
    exact h2.now e2.fh c2 ((e2.reps rs).append ry)
  · cases rx with
    | arm hf _ rs =>
    refine ⟨_, _, rfl, .inl (.inl (.inr ⟨_, e1.fh _ _ hf⟩)), ⟨S1, F1, ρ, R1, v.ext e1 c1, Wp.bind h1 fun y S2 F2 H2 dy R2 e2 c2 ry h2 => ?_⟩⟩
    exact h2.now e2.fh c2 ((e2.reps rs).append ry)
  · exact h1.elim
/-- a new tuple, a new list -/
def dTup : List D → Rs → Res D := fun xs R => if xs.length ≤ sizeLine then .ok (.tup xs) R else .bad
def dLst : List D → Rs → Res D := fun xs R => if xs.length ≤ sizeLine then .ok (.lst xs) R else .bad
def gTup (gs : GA) : G := fun ρ R => (gs ρ R).bind dTup
def gLst (gs : GA) : G := fun ρ R => (gs ρ R).bind dLst
theorem wp_tup {K : PySem.W.Frag} {S : List Addr} {F H : Hp} {R : Rs} {xs : List D} {vs : List V} {Q : VK} (hs : Same F H) (c : Cells K S F H R) (r : Reps K F vs xs) (h : Wp K E (fun _ F v d => Rep K F v d) S F H (.ok (.tup xs) R) Q) {p : Addr} (hp : H p = none) : Q (.ref p) (upd H p (.tup vs)) :=
  h _ S _ _ (.new hs hp) (c.new hs hp) (.tup upd_same (r.mono (same_upd (hs.free hp))))
theorem wp_lst {K : PySem.W.Frag} {S : List Addr} {F H : Hp} {R : Rs} {xs : List D} {vs : List V} {Q : VK} (hs : Same F H) (c : Cells K S F H R) (r : Reps K F vs xs) (h : Wp K E (fun _ F v d => Rep K F v d) S F H (.ok (.lst xs) R) Q) {p : Addr} (hp : H p = none) : Q (.ref p) (upd H p (.lst vs)) :=
  h _ S _ _ (.new hs hp) (c.new hs hp) (.lst upd_same (r.mono (same_upd (hs.free hp))))
theorem ev_tup {x1} (hs : EvA X E es gs) : Ev X E (.Tuple es x1 pos) (gTup gs) := pe_imp (pe_tup hs) fun σ H Q ⟨S, F, ρ, R, v, h⟩ => by
  refine ⟨S, F, ρ, R, v, Wp.bind h fun x S1 F1 H1 dx R1 e1 c1 rx h1 => ?_⟩
  unfold dTup at h1
  split at h1
  · rename_i hl
    exact ⟨by rw [rx.length]; exact hl, fun p hp => wp_tup e1.fh c1 rx h1 hp⟩
  · exact h1.elim
theorem ev_lst (hs : EvA X E es gs) : Ev X E (.List es pos) (gLst gs) := pe_imp (pe_lst hs) fun σ H Q ⟨S, F, ρ, R, v, h⟩ => by
  refine ⟨S, F, ρ, R, v, Wp.bind h fun x S1 F1 H1 dx R1 e1 c1 rx h1 => ?_⟩
  unfold dLst at h1
  split at h1
  · rename_i hl
    exact ⟨by rw [rx.length]; exact hl, fun p hp => wp_lst e1.fh c1 rx h1 hp⟩
  · exact h1.elim
end
end Pv

namespace Pv
open PySem PySem.Spec PyProof.Rows L2 Sr
def intsOf : List D → Option (List Int)
  | [] => some []
  | .int i :: r => (intsOf r).map (i :: ·)
  | _ :: _ => none
def blsOf : List D → Option (List Bool)
  | [] => some []
  | .bl i :: r => (blsOf r).map (i :: ·)
  | _ :: _ => none
@[simp] theorem intsOf_map : ∀ ns : List Int, intsOf (ns.map D.int) = some ns
  | [] => rfl
  | n :: r => by simp [intsOf, intsOf_map r]
@[simp] theorem blsOf_map : ∀ ns : List Bool, blsOf (ns.map D.bl) = some ns
  | [] => rfl
  | n :: r => by simp [blsOf, blsOf_map r]
theorem intsOf_eq : ∀ {ds : List D} {ns : List Int}, intsOf ds = some ns → ds = ns.map D.int
  | [], ns, h => by cases h; rfl
  | d :: r, ns, h => by
    cases d with
    | int i =>
      simp only [intsOf] at h
      cases q : intsOf r with
      | none => rw [q] at h; cases h
      | some ms =>
        rw [q] at h
        cases h
        rw [intsOf_eq q]; rfl
    | _ => cases h
theorem blsOf_eq : ∀ {ds : List D} {ns : List Bool}, blsOf ds = some ns → ds = ns.map D.bl
  | [], ns, h => by cases h; rfl
  | d :: r, ns, h => by
    cases d with
    | bl i =>
      simp only [blsOf] at h
      cases q : blsOf r with
      | none => rw [q] at h; cases h
      | some ms =>
        rw [q] at h
        cases h
        rw [blsOf_eq q]; rfl
    | _ => cases h
theorem Reps.of_bls {K : PySem.W.Frag} {F : Hp} : ∀ {vs : List V} {ns : List Bool}, Reps K F vs (ns.map D.bl) → vs = ns.map V.bl
  | _, [], .nil => rfl
  | _, n :: r, .cons h q => by
    cases h
    rw [Reps.of_bls q]; rfl
/-! ### indexing, slices -/
theorem atI_rep {K : PySem.W.Frag} {F : Hp} {vs : List V} {ds : List D} {i : Int} {d : D} (r : Reps K F vs ds) (h : atI ds i = some d) : ∃ v, atI vs i = some v ∧ Rep K F v d := by
  unfold atI at h ⊢
  rw [r.length]
  cases q : ixN ds.length i with
  | none => rw [q] at h; cases h
  | some j =>
    rw [q] at h
    exact r.get h
def dIx : D → D → Rs → Res D := fun x y R => match x, y with
  | .lst ds, .int i => match atI ds i with
    | some d => .ok d R
    | none => .bad
  | .tup ds, .int i => match atI ds i with
    | some d => .ok d R
    | none => .bad
  | .arm ds, .int i => match atI ds i with
    | some d => .ok d R
    | none => .bad
  | _, _ => .bad
/-- x[i], x a list or a tuple -/
def rIxV (K : PySem.W.Frag) : R2 := fun x y H Q => ∃ p xs i v, x = .ref p ∧ y = .int i ∧ (SqL K H p xs ∨ SqT K H p xs) ∧ atI xs i = some v ∧ Q v H
theorem ix_v {X : Cx} : IxR X (rIxV X.K) := by
  intro value slice pins s σ H x y v u Q I rx ry h hs
  obtain ⟨p, xs, i, z, rfl, rfl, hq | hq, he, q⟩ := h
  · exact ix_list value slice pins s σ H _ _ v u Q I rx ry ⟨p, xs, i, z, rfl, rfl, hq, he, q⟩ hs
  · exact ix_tup value slice pins s σ H _ _ v u Q I rx ry ⟨p, xs, i, z, rfl, rfl, hq, he, q⟩ hs
def rLenV (K : PySem.W.Frag) : List V → Hp → VK → Prop := fun vs H Q => ∃ p ys, vs = [.ref p] ∧ (SqL K H p ys ∨ SqT K H p ys) ∧ Q (.int ys.length) H
theorem call_len_v {X : Cx} : CallR X (.builtin "len") (rLenV X.K) := by
  intro pins s σ H xs us Q I r h
  obtain ⟨p, ys, rfl, hq, q⟩ := h
  exact call_len_seq pins s σ H _ us Q I r ⟨p, ys, rfl, hq, q⟩
def cutD {α : Type} (xs : List α) (lo hi : Option Int) : List α := (xs.drop (HT.sIx xs.length 0 lo)).take (HT.sIx xs.length xs.length hi - HT.sIx xs.length 0 lo)
theorem cut_rep {K : PySem.W.Frag} {F : Hp} {vs : List V} {ds : List D} {lo hi : Option Int} (r : Reps K F vs ds) : Reps K F (cutV vs lo hi) (cutD ds lo hi) := by
  unfold cutV cutD
  rw [r.length]
  exact (r.drop _).take _
abbrev GO := PEnv → Rs → Res (Option Int)
def gNoPart : GO := fun _ R => .ok none R
def gPart (g : G) : GO := fun ρ R => (g ρ R).bind fun d R => match d with
  | .int i => .ok (some i) R
  | _ => .bad
def dSl : D → Option Int → Option Int → Rs → Res D := fun x lo hi R => match x with
  | .lst ds => .ok (.lst (cutD ds lo hi)) R
  | .tup ds => .ok (.tup (cutD ds lo hi)) R
  | _ => .bad
def gSl (g : G) (l h : GO) : G := fun ρ R => (g ρ R).bind fun x R1 => (l ρ R1).bind fun a R2 => (h ρ R2).bind fun b R3 => dSl x a b R3
section
variable {X : Cx} {E : XK} {a b c e : Expr} {es rest : List Expr} {ga gb gc g : G} {gs : GA} {pos : Pos}
theorem o_ix : IxR X (rIxV X.K) ∧ OpD X.K E (rIxV X.K) dIx := ⟨ix_v, fun S F H R x y dx dy Q hs c rx ry h => by
  unfold dIx at h
  split at h
  · cases rx with
    | lst hf rs =>
    cases ry
    split at h
    · rename_i d hd
      obtain ⟨v, h1, h2⟩ := atI_rep rs hd
      exact ⟨_, _, _, v, rfl, rfl, .inl (.of (hs _ _ hf)), h1, h.now hs c h2⟩
    · exact h.elim
  · cases rx with
    | tup hf rs =>
    cases ry
    split at h
    · rename_i d hd
      obtain ⟨v, h1, h2⟩ := atI_rep rs hd
      exact ⟨_, _, _, v, rfl, rfl, .inr (.of (hs _ _ hf)), h1, h.now hs c h2⟩
    · exact h.elim
  · cases rx with
    | arm hf _ rs =>
    cases ry
    split at h
    · rename_i d hd
      obtain ⟨v, h1, h2⟩ := atI_rep rs hd
      exact ⟨_, _, _, v, rfl, rfl, .inr (.inl (.inr ⟨_, hs _ _ hf⟩)), h1, h.now hs c h2⟩
    · exact h.elim
  · exact h.elim⟩
abbrev EvO (X : Cx) (E : XK) (e : Option Expr) (g : GO) : Prop := PO X e (tG X.K E (fun _ _ (v : Option Int) d => v = d) g)
theorem po_imp {e : Option Expr} {t t' : TO} (h : PO X e t) (k : ∀ σ H Q, t' σ H Q → t σ H Q) : PO X e t' := ⟨fun pins s σ H Q I q => h.run pins s σ H Q I (k σ H Q q)⟩
theorem evo_none : EvO X E none gNoPart := po_imp po_none fun σ H Q ⟨S, F, ρ, R, v, h⟩ => h.now v.fh v.cells rfl
theorem evo_some (h : Ev X E e g) : EvO X E (some e) (gPart g) := po_imp (po_some h) fun σ H Q ⟨S, F, ρ, R, v, h⟩ => by
  refine ⟨S, F, ρ, R, v, Wp.bind h fun x S1 F1 H1 dx R1 e1 c1 rx h1 => ?_⟩
  split at h1
  · cases rx; exact ⟨_, rfl, h1.now e1.fh c1 rfl⟩
  · exact h1.elim
/-- a slice of a list or a tuple -/
def rSlU (K : PySem.W.Frag) : V → Option Int → Option Int → Hp → VK → Prop := fun x lo hi H Q => rSlLU x lo hi H Q ∨ rSlA K x lo hi H Q
theorem sl_u : SlR X (rSlU X.K) := by
  intro pins s σ H x v vl vu lo hi sl Q I rx hs pl pu h
  rcases h with h | h
  · exact sl_lu pins s σ H x v vl vu lo hi sl Q I rx hs pl pu h
  · exact sl_tupA pins s σ H x v vl vu lo hi sl Q I rx hs pl pu h
theorem ev_sl {lo hi : Option Expr} {l u : GO} {p2 : Pos} (h : Ev X E e g) (hl : EvO X E lo l) (hu : EvO X E hi u) : Ev X E (.Subscript e (.Slice lo hi none p2) pos) (gSl g l u) := pe_imp (pe_slice sl_u h hl hu) fun σ H Q ⟨S, F, ρ, R, v, h⟩ => by
  refine ⟨S, F, ρ, R, v, Wp.bind h fun x S1 F1 H1 dx R1 e1 c1 rx h1 => ?_⟩
  refine ⟨S1, F1, ρ, R1, v.ext e1 c1, Wp.bind h1 fun y S2 F2 H2 dy R2 e2 c2 ry h2 => ?_⟩
  refine ⟨S2, F2, ρ, R2, (v.ext e1 c1).ext e2 c2, Wp.bind h2 fun z S3 F3 H3 dz R3 e3 c3 rz h3 => ?_⟩
  subst ry rz
  replace rx := e3.rep (e2.rep rx)
  unfold dSl at h3
  split at h3
  · cases rx with
    | lst hf rs => exact .inl ⟨_, _, rfl, e3.fh _ _ hf, fun p hp => wp_lst e3.fh c3 (cut_rep rs) h3 hp⟩
  · cases rx with
    | tup hf rs =>
      refine .inr ⟨_, _, rfl, SqT.of (e3.fh _ _ hf), fun hw => ?_, fun _ p hp => wp_tup e3.fh c3 (cut_rep rs) h3 hp⟩
      refine h3.now e3.fh c3 (.tup hf ?_)
      have := cut_rep (lo := y) (hi := z) rs
      rw [cutV_whole hw.1 hw.2] at this
      exact this
  · exact h3.elim
/-! ### + of lists, of tuples -/
def dCatL : D → D → Rs → Res D := fun x y R => match x, y with
  | .lst a, .lst b => if a.length + b.length ≤ sizeLine then .ok (.lst (a ++ b)) R else .bad
  | _, _ => .bad
def dCatT : D → D → Rs → Res D := fun x y R => match x, y with
  | .tup a, .tup b => if a.length + b.length ≤ sizeLine then .ok (.tup (a ++ b)) R else .bad
  | _, _ => .bad
theorem o_cat : OpR X (binaryOp .Add) rCat ∧ OpD X.K E rCat dCatL := ⟨op_cat, fun S F H R x y dx dy Q hs c rx ry h => by
  unfold dCatL at h
  split at h
  · cases rx with
    | lst hf rs =>
    cases ry with
    | lst hg rt =>
    split at h
    · rename_i hl
      exact ⟨_, _, _, _, rfl, rfl, hs _ _ hf, hs _ _ hg, by rw [rs.length, rt.length]; exact hl, fun p hp => wp_lst hs c (rs.append rt) h hp⟩
    · exact h.elim
  · exact h.elim⟩
theorem o_catT : OpR X (binaryOp .Add) (rCatA X.K) ∧ OpD X.K E (rCatA X.K) dCatT := ⟨op_catA, fun S F H R x y dx dy Q hs c rx ry h => by
  unfold dCatT at h
  split at h
  · cases rx with
    | tup hf rs =>
    cases ry with
    | tup hg rt =>
    split at h
    · rename_i hl
      refine ⟨_, _, _, _, rfl, rfl, SqT.of (hs _ _ hf), SqT.of (hs _ _ hg), by rw [rs.length, rt.length]; exact hl, fun e => ?_, fun _ e => ?_, fun _ _ p hp => wp_tup hs c (rs.append rt) h hp⟩
      · have q := rs.append rt
        rw [e] at q
        exact h.now hs c (.tup hg q)
      · have q := rs.append rt
        rw [e, List.append_nil] at q
        exact h.now hs c (.tup hf q)
    · exact h.elim
  · exact h.elim⟩
/-! ### builtins -/
def CallD (K : PySem.W.Frag) (E : XK) (r : List V → Hp → VK → Prop) (f : List D → Rs → Res D) : Prop :=
  ∀ (S : List Addr) (F H : Hp) (R : Rs) (vs : List V) (ds : List D) (Q : VK), Same F H → Cells K S F H R → Reps K F vs ds → Wp K E (fun _ F v d => Rep K F v d) S F H (f ds R) Q → r vs H Q
def gCB (f : List D → Rs → Res D) (gs : GA) : G := fun ρ R => (gs ρ R).bind f
theorem tCB_of {K : PySem.W.Frag} {r : List V → Hp → VK → Prop} {f : List D → Rs → Res D} (hd : CallD K E r f) {σ : L2.St} {H : Hp} {Q : VK} (h : tP K E (gCB f gs) σ H Q) : tCB r (tPA K E gs) σ H Q := by
  obtain ⟨S, F, ρ, R, v, h⟩ := h
  exact ⟨S, F, ρ, R, v, Wp.bind h fun x S1 F1 H1 dx R1 e1 c1 rx h1 => hd S1 F1 H1 R1 x dx Q e1.fh c1 rx h1⟩
theorem ev_b {id : String} {x : Str} {p : Pos} {r : List V → Hp → VK → Prop} {f : List D → Rs → Res D} (hc : CallR X (.builtin id) r ∧ CallD X.K E r f) (hg : Gl X x) (hm : X.mg x = none) (hv : bootBuiltins x = some (.builtin id)) (ha : EvA X E (e :: es) gs) (hn : x ≠ "__name__" := by decide) (hdb : (x == ("__debug__" : Str)) = false := by decide)
    (he : starEach (e :: es) X.env = (false, eval e X.env) :: starEach es X.env := by rfl) (hpl : (backTo pos (starEach es X.env)).any (·.1) = false := by rfl) :
    Ev X E (.Call (.Name x p) (e :: es) [] pos) (gCB f gs) := pe_imp (pe_callB hc.1 hg hm hv ha hn hdb he hpl) fun _ _ _ => tCB_of hc.2
theorem ev_ty {id : String} {x : Str} {p : Pos} {r : List V → Hp → VK → Prop} {f : List D → Rs → Res D} (hc : CallR X (.type id) r ∧ CallD X.K E r f) (hg : Gl X x) (hm : X.mg x = none) (hv : bootBuiltins x = some (.type id)) (ha : EvA X E (e :: es) gs) (hn : x ≠ "__name__" := by decide) (hdb : (x == ("__debug__" : Str)) = false := by decide)
    (he : starEach (e :: es) X.env = (false, eval e X.env) :: starEach es X.env := by rfl) (hpl : (backTo pos (starEach es X.env)).any (·.1) = false := by rfl) :
    Ev X E (.Call (.Name x p) (e :: es) [] pos) (gCB f gs) := pe_imp (pe_callTy hc.1 hg hm hv ha hn hdb he hpl) fun _ _ _ => tCB_of hc.2
def dLen : List D → Rs → Res D := fun ds R => match ds with
  | [.lst xs] => .ok (.int xs.length) R
  | [.tup xs] => .ok (.int xs.length) R
  | [.arm xs] => .ok (.int xs.length) R
  | _ => .bad
theorem c_len : CallR X (.builtin "len") (rLenV X.K) ∧ CallD X.K E (rLenV X.K) dLen := ⟨call_len_v, fun S F H R vs ds Q hs c r h => by
  unfold dLen at h
  split at h
  · cases r with
    | cons r rn =>
    cases rn
    cases r with
    | lst hf rs =>
    refine ⟨_, _, rfl, .inl (.of (hs _ _ hf)), ?_⟩
    rw [rs.length]
    exact h.now hs c (.int _)
  · cases r with
    | cons r rn =>
    cases rn
    cases r with
    | tup hf rs =>
    refine ⟨_, _, rfl, .inr (.of (hs _ _ hf)), ?_⟩
    rw [rs.length]
    exact h.now hs c (.int _)
  · cases r with
    | cons r rn =>
    cases rn
    cases r with
    | arm hf _ rs =>
    refine ⟨_, _, rfl, .inr (.inl (.inr ⟨_, hs _ _ hf⟩)), ?_⟩
    rw [rs.length]
    exact h.now hs c (.int _)
  · exact h.elim⟩
def dAbs : List D → Rs → Res D := fun ds R => match ds with
  | [.int i] => .ok (.int (if i < 0 then -i else i)) R
  | _ => .bad
theorem c_abs : CallR X (.builtin "abs") (fun xs H Q => ∃ i, xs = [.int i] ∧ Q (.int (if i < 0 then -i else i)) H) ∧ CallD X.K E (fun xs H Q => ∃ i, xs = [.int i] ∧ Q (.int (if i < 0 then -i else i)) H) dAbs := ⟨call_abs, fun S F H R vs ds Q hs c r h => by
  unfold dAbs at h
  split at h
  · cases r with
    | cons r rn => cases rn; cases r; exact ⟨_, rfl, h.now hs c (.int _)⟩
  · exact h.elim⟩
def dMax2 : List D → Rs → Res D := fun ds R => match ds with
  | [.int i, .int j] => .ok (.int (if j > i then j else i)) R
  | _ => .bad
def dMin2 : List D → Rs → Res D := fun ds R => match ds with
  | [.int i, .int j] => .ok (.int (if j < i then j else i)) R
  | _ => .bad
theorem c_max2 (hc : X.calm = true) : CallR X (.builtin "max") (fun xs H Q => ∃ i j, xs = [.int i, .int j] ∧ Q (.int (if j > i then j else i)) H) ∧ CallD X.K E (fun xs H Q => ∃ i j, xs = [.int i, .int j] ∧ Q (.int (if j > i then j else i)) H) dMax2 := ⟨call_max2 hc, fun S F H R vs ds Q hs c r h => by
  unfold dMax2 at h
  split at h
  · cases r with
    | cons r rn =>
    cases rn with
    | cons r2 rn => cases rn; cases r; cases r2; exact ⟨_, _, rfl, h.now hs c (.int _)⟩
  · exact h.elim⟩
theorem c_min2 (hc : X.calm = true) : CallR X (.builtin "min") (fun xs H Q => ∃ i j, xs = [.int i, .int j] ∧ Q (.int (if j < i then j else i)) H) ∧ CallD X.K E (fun xs H Q => ∃ i j, xs = [.int i, .int j] ∧ Q (.int (if j < i then j else i)) H) dMin2 := ⟨call_min2 hc, fun S F H R vs ds Q hs c r h => by
  unfold dMin2 at h
  split at h
  · cases r with
    | cons r rn =>
    cases rn with
    | cons r2 rn => cases rn; cases r; cases r2; exact ⟨_, _, rfl, h.now hs c (.int _)⟩
  · exact h.elim⟩
def dInt1 : List D → Rs → Res D := fun ds R => match ds with
  | [.int i] => .ok (.int i) R
  | [.bl k] => .ok (.int (if k then 1 else 0)) R
  | _ => .bad
theorem c_int1 : CallR X (.type "int") (fun xs H Q => (∃ i, xs = [.int i] ∧ Q (.int i) H) ∨ ∃ k, xs = [.bl k] ∧ Q (.int (if k then 1 else 0)) H) ∧ CallD X.K E (fun xs H Q => (∃ i, xs = [.int i] ∧ Q (.int i) H) ∨ ∃ k, xs = [.bl k] ∧ Q (.int (if k then 1 else 0)) H) dInt1 := ⟨call_int1, fun S F H R vs ds Q hs c r h => by
  unfold dInt1 at h
  split at h
  · cases r with
    | cons r rn => cases rn; cases r; exact .inl ⟨_, rfl, h.now hs c (.int _)⟩
  · cases r with
    | cons r rn => cases rn; cases r; exact .inr ⟨_, rfl, h.now hs c (.int _)⟩
  · exact h.elim⟩
def dSum : List D → Rs → Res D := fun ds R => match ds with
  | [.lst xs] => match intsOf xs with
    | some ns => .ok (.int ns.sum) R
    | none => .bad
  | _ => .bad
theorem c_sum (hc : X.calm = true) : CallR X (.builtin "sum") (rSum X.K) ∧ CallD X.K E (rSum X.K) dSum := ⟨cr_sum hc, fun S F H R vs ds Q hs c r h => by
  unfold dSum at h
  split at h
  · split at h
    · rename_i ns hn
      cases r with
      | cons r rn =>
      cases rn
      cases r with
      | lst hf rs =>
      rw [intsOf_eq hn] at rs
      rw [Reps.of_ints rs] at hf
      exact ⟨_, ns, rfl, SqL.of (hs _ _ hf), h.now hs c (.int _)⟩
    · exact h.elim
  · exact h.elim⟩
def dAny : List D → Rs → Res D := fun ds R => match ds with
  | [.lst xs] => match blsOf xs with
    | some ns => .ok (.bl (ns.any id)) R
    | none => .bad
  | _ => .bad
def dAll : List D → Rs → Res D := fun ds R => match ds with
  | [.lst xs] => match blsOf xs with
    | some ns => .ok (.bl (ns.all id)) R
    | none => .bad
  | _ => .bad
theorem c_any (hc : X.calm = true) : CallR X (.builtin "any") (rAny X.K) ∧ CallD X.K E (rAny X.K) dAny := ⟨cr_any hc, fun S F H R vs ds Q hs c r h => by
  unfold dAny at h
  split at h
  · split at h
    · rename_i ns hn
      cases r with
      | cons r rn =>
      cases rn
      cases r with
      | lst hf rs =>
      rw [blsOf_eq hn] at rs
      rw [Reps.of_bls rs] at hf
      exact ⟨_, ns, rfl, SqL.of (hs _ _ hf), h.now hs c (.bl _)⟩
    · exact h.elim
  · exact h.elim⟩
theorem c_all (hc : X.calm = true) : CallR X (.builtin "all") (rAll X.K) ∧ CallD X.K E (rAll X.K) dAll := ⟨cr_all hc, fun S F H R vs ds Q hs c r h => by
  unfold dAll at h
  split at h
  · split at h
    · rename_i ns hn
      cases r with
      | cons r rn =>
      cases rn
      cases r with
      | lst hf rs =>
      rw [blsOf_eq hn] at rs
      rw [Reps.of_bls rs] at hf
      exact ⟨_, ns, rfl, SqL.of (hs _ _ hf), h.now hs c (.bl _)⟩
    · exact h.elim
  · exact h.elim⟩
def dList : List D → Rs → Res D := fun ds R => match ds with
  | [.lst xs] => .ok (.lst xs) R
  | [.tup xs] => .ok (.lst xs) R
  | _ => .bad
theorem c_list : CallR X (.type "list") rListU ∧ CallD X.K E rListU dList := ⟨call_list_u, fun S F H R vs ds Q hs c r h => by
  unfold dList at h
  split at h
  · cases r with
    | cons r rn =>
    cases rn
    cases r with
    | lst hf rs => exact ⟨_, _, rfl, .inl (hs _ _ hf), fun p hp => wp_lst hs c rs h hp⟩
  · cases r with
    | cons r rn =>
    cases rn
    cases r with
    | tup hf rs => exact ⟨_, _, rfl, .inr (hs _ _ hf), fun p hp => wp_lst hs c rs h hp⟩
  · exact h.elim⟩
def dTupl : List D → Rs → Res D := fun ds R => match ds with
  | [.lst xs] => .ok (.tup xs) R
  | _ => .bad
theorem c_tup : CallR X (.type "tuple") rTupU ∧ CallD X.K E rTupU dTupl := ⟨call_tup_u, fun S F H R vs ds Q hs c r h => by
  unfold dTupl at h
  split at h
  · cases r with
    | cons r rn =>
    cases rn
    cases r with
    | lst hf rs => exact ⟨_, _, rfl, hs _ _ hf, fun p hp => wp_tup hs c rs h hp⟩
  · exact h.elim⟩
/-- isinstance(x, T), T a built-in kind -/
def kOf : D → Option Kd
  | .int _ => some .int
  | .bl _ => some .bl
  | .str _ => some .str
  | .non => some .non
  | .lst _ => some .lst
  | .tup _ => some .tup
  | .arm _ => some .tup
  | .dic _ => some .dct
  | .dit _ => some .dct
  | _ => none
theorem kOf_rep {K : PySem.W.Frag} {F H : Hp} {v : V} {d : D} {k : Kd} (hs : Same F H) (r : Rep K F v d) (h : kOf d = some k) : TyX K H v (.type k.name) := by
  have key : kdOf v H = some k ∨ TyX K H v (.type k.name) := by
    cases r with
    | arm hf _ rs => cases h; exact .inr (.fTuple (hs _ _ hf))
    | tup hf rs => cases h; unfold kdOf; simp only [hs _ _ hf]; exact .inl trivial
    | lst hf rs => cases h; unfold kdOf; simp only [hs _ _ hf]; exact .inl trivial
    | dic hf e rs => cases h; unfold kdOf; simp only [hs _ _ hf]; exact .inl trivial
    | dit hf e rs => cases h; unfold kdOf; simp only [hs _ _ hf]; exact .inl trivial
    | non => exact .inl h
    | bl b => exact .inl h
    | int i => exact .inl h
    | str x => exact .inl h
    | _ => cases h
  rcases key with h | h
  · exact kdOf_ok h
  · exact h
theorem kOf_rep' {K : PySem.W.Frag} {F H : Hp} {v : V} {d : D} {k : Kd} (hs : Same F H) (r : Rep K F v d) (h : kOf d = some k) (ha : ∀ xs, d ≠ .arm xs) : kdOf v H = some k := by
  cases r with
  | arm hf _ rs => exact absurd rfl (ha _)
  | tup hf rs => cases h; unfold kdOf; simp only [hs _ _ hf]
  | lst hf rs => cases h; unfold kdOf; simp only [hs _ _ hf]
  | dic hf e rs => cases h; unfold kdOf; simp only [hs _ _ hf]
  | dit hf e rs => cases h; unfold kdOf; simp only [hs _ _ hf]
  | non => exact h
  | bl b => exact h
  | int i => exact h
  | str x => exact h
  | _ => cases h
def dIsK (T : Kd) : List D → Rs → Res D := fun ds R => match ds with
  | [x, .ty n] => if n = T.name then match kOf x with
    | some k => .ok (.bl (isK k T)) R
    | none => .bad
    else .bad
  | _ => .bad
def rIsV (K : PySem.W.Frag) (T : Kd) : List V → Hp → VK → Prop := fun xs H Q => ∃ (x : V) (k : Kd), xs = [x, .ty T.name] ∧ TyX K H x (.type k.name) ∧ Q (.bl (isK k T)) H
theorem call_isV (T : Kd) (hT : T ≠ .non) : CallR X (.builtin "isinstance") (rIsV X.K T) := by
  intro pins s σ H xs us Q I r h
  obtain ⟨x, k, rfl, hk, q⟩ := h
  exact call_isi pins s σ H _ us Q I r ⟨x, _, _, _, _, rfl, .ty _, hk, kit_ty (kitB_isK k T hT), q⟩
theorem c_isK (T : Kd) (hT : T ≠ .non) : CallR X (.builtin "isinstance") (rIsV X.K T) ∧ CallD X.K E (rIsV X.K T) (dIsK T) := ⟨call_isV T hT, fun S F H R vs ds Q hs c r h => by
  unfold dIsK at h
  split at h
  · split at h
    · rename_i hn
      split at h
      · rename_i k hk
        cases r with
        | cons r rn =>
        cases rn with
        | cons r2 rn =>
        cases rn
        cases r2
        subst hn
        exact ⟨_, k, rfl, kOf_rep hs r hk, h.now hs c (.bl _)⟩
      · exact h.elim
    · exact h.elim
  · exact h.elim⟩
/-- isinstance(x, C), C an own class -/
def dIsC (C : Str) : List D → Rs → Res D := fun ds R => match ds with
  | [.ins c _, .cls C'] => if c = C ∧ C' = C then .ok (.bl true) R else .bad
  | [x, .cls C'] => if C' = C then match x with
    | .arm _ => .bad
    | x => match kOf x with
      | some k => if k = .dct then .bad else .ok (.bl false) R
      | none => .bad
    else .bad
  | _ => .bad
theorem c_isC {C : Str} (cl : Cls X.K (He.ga X.K C)) (hC : clsAt X.K (He.ga X.K C) = true) : CallR X (.builtin "isinstance") (rIsC (He.ga X.K C)) ∧ CallD X.K E (rIsC (He.ga X.K C)) (dIsC C) := ⟨call_isC cl hC, fun S F H R vs ds Q hs c r h => by
  unfold dIsC at h
  split at h
  · split at h
    · rename_i hh
      obtain ⟨rfl, rfl⟩ := hh
      cases r with
      | cons r rn =>
      cases rn with
      | cons r2 rn =>
      cases rn
      cases r2
      cases r with
      | ins hf e rs => exact ⟨_, rfl, .inl ⟨_, _, _, rfl, hs _ _ hf, h.now hs c (.bl _)⟩⟩
    · exact h.elim
  · split at h
    · rename_i hh
      subst hh
      split at h
      · exact h.elim
      · rename_i hna
        split at h
        · rename_i k hk
          split at h
          · exact h.elim
          · rename_i hd
            cases r with
            | cons r rn =>
            cases rn with
            | cons r2 rn =>
            cases rn
            cases r2
            exact ⟨_, rfl, .inr ⟨k, kOf_rep' hs r hk (fun xs z => hna xs z), hd, h.now hs c (.bl _)⟩⟩
        · exact h.elim
    · exact h.elim
  · exact h.elim⟩
end
end Pv

namespace Pv
open PySem PySem.Spec PyProof.Rows L2 Sr
/-! ### a def's promise -/
def spP (K : PySem.W.Frag) (n : Nat) (f : List D → Rs → Res D) : Sp := fun vs H Q E => ∃ S F R ds, Same F H ∧ Cells K S F H R ∧ Reps K F vs ds ∧ ds.length = n ∧ Wp K E (fun _ F v d => Rep K F v d) S F H (f ds R) Q
theorem spP_len {K : PySem.W.Frag} {n : Nat} {f : List D → Rs → Res D} (vs : List V) (H : Hp) (Q : VK) (E : XK) (h : spP K n f vs H Q E) : vs.length = n := by
  obtain ⟨S, F, R, ds, _, _, r, hl, _⟩ := h
  rw [r.length]; exact hl
def gCall (n : Nat) (f : List D → Rs → Res D) (gs : GA) : G := fun ρ R => (gs ρ R).bind fun ds R => if ds.length = n then f ds R else .bad
abbrev XF : XK := fun _ _ _ => False
theorem pass_no {X : Cx} : Passes (L2.CX X.prog X.w) X XF := fun _ _ _ _ _ _ _ h => by
  obtain ⟨_, _, _, _, _, _, _, _, _, _, _, _, h⟩ := h
  exact h.elim
section
variable {X : Cx} {E : XK} {a b c e : Expr} {es rest : List Expr} {ga gb gc g : G} {gs : GA} {pos p : Pos} {n k : Nat} {f : List D → Rs → Res D} {x : Str} {ps : List Str} {CX : CXT}
theorem tCall_of {K : PySem.W.Frag} {σ : L2.St} {H : Hp} {Q : VK} (h : tP K E (gCall n f gs) σ H Q) : tCall (spP K n f) [] E (tPA K E gs) σ H Q := by
  obtain ⟨S, F, ρ, R, v, h⟩ := h
  refine ⟨S, F, ρ, R, v, Wp.bind h fun xs S1 F1 H1 ds R1 e1 c1 rx h1 => ?_⟩
  rw [List.append_nil]
  split at h1
  · rename_i hl
    exact ⟨S1, F1, R1, ds, e1.fh, c1, rx, hl, h1⟩
  · exact h1.elim
theorem ev_fn (F : Fn X.prog X.w X.K X.mg X.base CX k x ps (spP X.K n f)) (hr : Room k X.A) (hx : Passes CX X E) (ha : EvA X E (e :: es) gs) (hg : Gl X x := by rfl) (hdb : (x == ("__debug__" : Str)) = false := by decide)
    (he : starEach (e :: es) X.env = (false, eval e X.env) :: starEach es X.env := by rfl) (hpl : (backTo pos (starEach es X.env)).any (·.1) = false := by rfl) :
    Ev X E (.Call (.Name x p) (e :: es) [] pos) (gCall n f gs) := pe_imp (pe_fn F hr hx ha hg hdb he hpl) fun _ _ _ => tCall_of
end
/-! ### states -/
def hide (own : List Nat) (ρ : PEnv) : PEnv := own.foldl (fun ρ i => ρ.set i none) ρ
theorem hide_get : ∀ (own : List Nat) (ρ : PEnv) (i : Nat) (d : D), (hide own ρ)[i]? = some (some d) → ρ[i]? = some (some d) ∧ i ∉ own
  | [], ρ, i, d, h => ⟨h, by simp⟩
  | j :: r, ρ, i, d, h => by
    obtain ⟨h1, h2⟩ := hide_get r (ρ.set j none) i d h
    by_cases e : i = j
    · subst e
      rw [List.getElem?_set] at h1
      simp at h1
    · rw [List.getElem?_set_ne (Ne.symm e)] at h1
      exact ⟨h1, by simp [e, h2]⟩
theorem hide_len : ∀ (own : List Nat) (ρ : PEnv), (hide own ρ).length = ρ.length
  | [], ρ => rfl
  | j :: r, ρ => by
    show (hide r (ρ.set j none)).length = _
    rw [hide_len r]; simp
/-- an owned slot's cell -/
def OwnAt (K : PySem.W.Frag) (S : List Addr) (F H0 H : Hp) (d : D) (v : V) : Prop := ∃ a o, v = .ref a ∧ H a = some o ∧ RepO K F o d ∧ F a = none ∧ a ∉ S ∧ H0 a = none
structure SIn (K : PySem.W.Frag) (S0 : List Addr) (F0 H0 : Hp) (own : List Nat) (ρ : PEnv) (R : Rs) (σ : L2.St) (S : List Addr) (F H : Hp) : Prop where
  ext : Ext S0 F0 H0 S F H
  cells : Cells K S F H R
  sh : ∀ (i : Nat) (d : D), ρ[i]? = some (some d) → i ∉ own → ∃ v, σ[i]? = some (some v) ∧ RepV K S F v d
  ow : ∀ i ∈ own, ∀ d, ρ[i]? = some (some d) → ∃ v, σ[i]? = some (some v) ∧ OwnAt K S F H0 H d v
  ap : ∀ i ∈ own, ∀ j ∈ own, ∀ d d' v, ρ[i]? = some (some d) → ρ[j]? = some (some d') → σ[i]? = some (some v) → σ[j]? = some (some v) → i = j
  len : ρ.length = σ.length
def SRel (K : PySem.W.Frag) (S0 : List Addr) (F0 H0 : Hp) (own : List Nat) (ρ : PEnv) (R : Rs) (σ : L2.St) (H : Hp) : Prop := ∃ S F, SIn K S0 F0 H0 own ρ R σ S F H
inductive Out where
  | nx (ρ : PEnv) (R : Rs) | rt (d : D) (R : Rs) | bk (ρ : PEnv) (R : Rs) | ct (ρ : PEnv) (R : Rs) | exc (c : Str) (fs : List (Str × D)) (R : Rs) | bad
abbrev GS := PEnv → Rs → Out
def WpS (K : PySem.W.Frag) (E : XK) (S0 : List Addr) (F0 H0 : Hp) (own ol : List Nat) (out : Out) (Dn : Ends) : Prop := match out with
  | .nx ρ R => ∀ σ H, SRel K S0 F0 H0 own ρ R σ H → Dn.nx σ H
  | .bk ρ R => ∀ σ H, SRel K S0 F0 H0 ol ρ R σ H → Dn.bk σ H
  | .ct ρ R => ∀ σ H, SRel K S0 F0 H0 ol ρ R σ H → Dn.ct σ H
  | .rt d R => ∀ v S F H, Ext S0 F0 H0 S F H → Cells K S F H R → Rep K F v d → Dn.rt v H
  | .exc c fs R => ∀ d S F H, Ext S0 F0 H0 S F H → Cells K S F H R → ExcAt K S F H fs d → E (.ref (He.ga K c)) d H
  | .bad => False
def tS (K : PySem.W.Frag) (E : XK) (own own' ol : List Nat) (g : GS) : TS := fun Dn σ H => ∃ S0 F0 H0 ρ R, SRel K S0 F0 H0 own ρ R σ H ∧ WpS K E S0 F0 H0 own' ol (g ρ R) Dn
abbrev Sts (X : Cx) (E : XK) (own own' ol : List Nat) (sts : List Stmt) (g : GS) : Prop := PSs X sts (tS X.K E own own' ol g)
abbrev Stm (X : Cx) (E : XK) (own own' ol : List Nat) (st : Stmt) (g : GS) : Prop := PS X st (tS X.K E own own' ol g)
section
variable {K : PySem.W.Frag} {S0 S S' : List Addr} {F0 H0 F H F' H' : Hp} {own : List Nat} {ρ : PEnv} {R R' : Rs} {σ : L2.St} {E : XK}
theorem SIn.same (s : SIn K S0 F0 H0 own ρ R σ S F H) : Same F H := s.ext.fh
/-- the view without the owned slots -/
theorem SIn.view (s : SIn K S0 F0 H0 own ρ R σ S F H) : View K S F H (hide own ρ) R σ := ⟨s.same, fun i d h => by
  obtain ⟨h1, h2⟩ := hide_get own ρ i d h
  exact s.sh i d h1 h2, s.cells, by rw [hide_len]; exact s.len⟩
/-- the state goes on in an expression -/
theorem SIn.on (s : SIn K S0 F0 H0 own ρ R σ S F H) (e : Ext S F H S' F' H') (c : Cells K S' F' H' R') : SIn K S0 F0 H0 own ρ R' σ S' F' H' where
  ext := s.ext.trans e
  cells := c
  sh := fun i d h1 h2 => by
    obtain ⟨v, h3, h4⟩ := s.sh i d h1 h2
    exact ⟨v, h3, h4.mono e.s e.f⟩
  ow := fun i hi d h => by
    obtain ⟨v, h1, a, o, h2, h3, h4, h5, h6, h7⟩ := s.ow i hi d h
    refine ⟨v, h1, a, o, h2, e.fr a o h3 h6, h4.mono e.f, e.nw a o h3 h5, fun z => ?_, h7⟩
    have := e.sn a z h6
    rw [h3] at this; cases this
  ap := s.ap
  len := s.len
/-- a shared slot is set -/
theorem SIn.set (s : SIn K S0 F0 H0 own ρ R σ S F H) {i : Nat} {v : V} {d : D} (hi : i ∉ own) (r : RepV K S F v d) : SIn K S0 F0 H0 own (ρ.set i (some d)) R (σ.set i (some v)) S F H where
  ext := s.ext
  cells := s.cells
  sh := fun j d' h1 h2 => by
    by_cases e : i = j
    · subst e
      rw [List.getElem?_set] at h1 ⊢
      rw [s.len] at h1
      split at h1
      · split at h1
        · rename_i h3
          rw [if_pos h3]
          cases h1
          exact ⟨v, by simp, r⟩
        · cases h1
      · rename_i z; exact absurd rfl z
    · rw [List.getElem?_set_ne e] at h1 ⊢
      exact s.sh j d' h1 h2
  ow := fun j hj d' h => by
    have e : i ≠ j := fun z => hi (z ▸ hj)
    rw [List.getElem?_set_ne e] at h ⊢
    exact s.ow j hj d' h
  ap := fun j hj l hl d1 d2 u h1 h2 h3 h4 => by
    have e : i ≠ j := fun z => hi (z ▸ hj)
    have e' : i ≠ l := fun z => hi (z ▸ hl)
    rw [List.getElem?_set_ne e] at h1 h3
    rw [List.getElem?_set_ne e'] at h2 h4
    exact s.ap j hj l hl d1 d2 u h1 h2 h3 h4
  len := by simpa using s.len
/-- an owned slot gets a new cell -/
theorem SIn.setO (s : SIn K S0 F0 H0 own ρ R σ S F H) {i : Nat} {a : Addr} {o : HO} {d : D} (hi : i ∈ own) (ha : H a = some o) (r : RepO K F o d) (hF : F a = none) (hS : a ∉ S) (h0 : H0 a = none)
    (hn : ∀ j ∈ own, ∀ d, ρ[j]? = some (some d) → j ≠ i → σ[j]? ≠ some (some (.ref a))) : SIn K S0 F0 H0 own (ρ.set i (some d)) R (σ.set i (some (.ref a))) S F H where
  ext := s.ext
  cells := s.cells
  sh := fun j d' h1 h2 => by
    have e : i ≠ j := fun z => h2 (z ▸ hi)
    rw [List.getElem?_set_ne e] at h1 ⊢
    exact s.sh j d' h1 h2
  ow := fun j hj d' h => by
    by_cases e : i = j
    · subst e
      rw [List.getElem?_set] at h ⊢
      rw [s.len] at h
      split at h
      · split at h
        · rename_i h3
          rw [if_pos h3]
          cases h
          exact ⟨_, by simp, a, o, rfl, ha, r, hF, hS, h0⟩
        · cases h
      · rename_i z; exact absurd rfl z
    · rw [List.getElem?_set_ne e] at h ⊢
      exact s.ow j hj d' h
  ap := fun j hj l hl d1 d2 u h1 h2 h3 h4 => by
    have key : ∀ m, m ∈ own → m ≠ i → ∀ d, ρ[m]? = some (some d) → σ[m]? = some (some u) → (σ.set i (some (.ref a)))[i]? = some (some u) → False := fun m hm hne d q1 q2 q3 => by
      rw [List.getElem?_set] at q3
      simp only [if_true] at q3
      split at q3
      · cases q3
        exact hn m hm d q1 hne q2
      · cases q3
    by_cases e : i = j
    · subst e
      by_cases e' : i = l
      · exact e'
      · rw [List.getElem?_set_ne e'] at h2 h4
        exact (key l hl (Ne.symm e') d2 h2 h4 h3).elim
    · rw [List.getElem?_set_ne e] at h1 h3
      by_cases e' : i = l
      · subst e'
        exact (key j hj (Ne.symm e) d1 h1 h3 h4).elim
      · rw [List.getElem?_set_ne e'] at h2 h4
        exact s.ap j hj l hl d1 d2 u h1 h2 h3 h4
  len := by simpa using s.len
/-- an owned slot's cell is changed -/
theorem SIn.put (s : SIn K S0 F0 H0 own ρ R σ S F H) {i : Nat} {a : Addr} {o : HO} {d d0 : D} (hi : i ∈ own) (hd : ρ[i]? = some (some d0)) (hv : σ[i]? = some (some (.ref a))) (r : RepO K F o d) : SIn K S0 F0 H0 own (ρ.set i (some d)) R σ S F (upd H a o) := by
  obtain ⟨v, h1, a', o', rfl, h3, h4, h5, h6, h7⟩ := s.ow i hi d0 hd
  rw [hv] at h1
  cases h1
  have neF : ∀ b u, F b = some u → b ≠ a := fun b u e z => by rw [z, h5] at e; cases e
  have neH : ∀ b u, H0 b = some u → b ≠ a := fun b u e z => by rw [z, h7] at e; cases e
  refine ⟨⟨s.ext.s, s.ext.f, fun b u e => by rw [upd_ne (neF b u e)]; exact s.ext.fh b u e, fun b u e hb => by rw [upd_ne (neH b u e)]; exact s.ext.fr b u e hb, fun b u e => by rw [upd_ne (neH b u e)]; exact s.ext.th b u e, s.ext.nw, s.ext.sn⟩, s.cells.upd h6, fun j d' q1 q2 => ?_, fun j hj d' q => ?_, fun j hj l hl d1 d2 u q1 q2 q3 q4 => ?_, by simpa using s.len⟩
  · have e : i ≠ j := fun z => q2 (z ▸ hi)
    rw [List.getElem?_set_ne e] at q1
    exact s.sh j d' q1 q2
  · by_cases e : i = j
    · subst e
      rw [List.getElem?_set] at q
      simp only [if_true] at q
      split at q
      · cases q
        exact ⟨_, hv, a, o, rfl, upd_same, r, h5, h6, h7⟩
      · cases q
    · rw [List.getElem?_set_ne e] at q
      obtain ⟨v, g1, b, o2, rfl, g3, g4, g5, g6, g7⟩ := s.ow j hj d' q
      have hne : b ≠ a := fun z => by
        rw [z] at g1
        exact e (s.ap i hi j hj d0 d' _ hd q hv g1)
      exact ⟨_, g1, b, o2, rfl, by rw [upd_ne hne]; exact g3, g4, g5, g6, g7⟩
  · have un : ∀ (m : Nat) (d' : D), (ρ.set i (some d))[m]? = some (some d') → ∃ d'', ρ[m]? = some (some d'') := fun m d' q => by
      by_cases e : i = m
      · subst e; exact ⟨d0, hd⟩
      · rw [List.getElem?_set_ne e] at q; exact ⟨d', q⟩
    obtain ⟨e1, q1⟩ := un j d1 q1
    obtain ⟨e2, q2⟩ := un l d2 q2
    exact s.ap j hj l hl e1 e2 u q1 q2 q3 q4
end
end Pv

namespace Pv
open PySem PySem.Spec PyProof.Rows L2 Sr
/-! ### data without cells that may change -/
def isMut : HO → Prop
  | .lst _ => True
  | .dK _ => True
  | .dT _ => True
  | .ins _ _ _ => True
  | _ => False
mutual
def D.imm : D → Bool
  | .non => true
  | .bl _ => true
  | .int _ => true
  | .str _ => true
  | .tup xs => immL xs
  | .arm xs => immL xs
  | .ty _ => true
  | .cls _ => true
  | _ => false
def immL : List D → Bool
  | [] => true
  | d :: r => d.imm && immL r
end
def immO : D → Bool
  | .lst xs => immL xs
  | .dic kvs => immL (kvs.map (·.2))
  | .dit kvs => immL (kvs.map (·.2))
  | d => d.imm
@[simp] theorem immL_ints : ∀ ns : List Int, immL (ns.map D.int) = true
  | [] => rfl
  | n :: r => by simp [immL, D.imm, immL_ints r]
@[simp] theorem immL_append : ∀ xs ys : List D, immL (xs ++ ys) = (immL xs && immL ys)
  | [], ys => by simp [immL]
  | x :: xs, ys => by simp [immL, immL_append xs ys, Bool.and_assoc]
section
variable {K : PySem.W.Frag} {F G : Hp}
mutual
theorem Rep.imm (hG : ∀ a o, F a = some o → (∀ z, o = z → ¬ isMut z) → G a = some o) : ∀ {v : V} {d : D}, Rep K F v d → d.imm = true → Rep K G v d
  | _, _, .non, _ => .non
  | _, _, .bl b, _ => .bl b
  | _, _, .int i, _ => .int i
  | _, _, .str x, _ => .str x
  | _, _, .arm h e r, hi => .arm (hG _ _ h (by rintro _ rfl; exact id)) e (Reps.imm hG r (by simpa [D.imm] using hi))
  | _, _, .tup h r, hi => .tup (hG _ _ h (by rintro _ rfl; exact id)) (Reps.imm hG r (by simpa [D.imm] using hi))
  | _, _, .ty n, _ => .ty n
  | _, _, .cls c, _ => .cls c
theorem Reps.imm (hG : ∀ a o, F a = some o → (∀ z, o = z → ¬ isMut z) → G a = some o) : ∀ {vs : List V} {ds : List D}, Reps K F vs ds → immL ds = true → Reps K G vs ds
  | _, _, .nil, _ => .nil
  | _, _, .cons h r, hi => .cons (Rep.imm hG h (by simp [immL] at hi; exact hi.1)) (Reps.imm hG r (by simp [immL] at hi; exact hi.2))
end
theorem RepO.imm (hG : ∀ a o, F a = some o → (∀ z, o = z → ¬ isMut z) → G a = some o) {o : HO} {d : D} (h : RepO K F o d) (hi : immO d = true) : RepO K G o d := by
  cases h with
  | lst r => exact .lst (r.imm hG hi)
  | ins e r => simp [immO, D.imm] at hi
  | dic e r => exact .dic e (r.imm hG hi)
  | dit e r => exact .dit e (r.imm hG hi)
end
/-- the addresses of the owned slots -/
def OwnA (own : List Nat) (ρ : PEnv) (σ : L2.St) (b : Addr) : Prop := ∃ i ∈ own, ∃ d, ρ[i]? = some (some d) ∧ σ[i]? = some (some (.ref b))
open Classical in
/-- what is frozen, and the owned cells -/
noncomputable def allF (own : List Nat) (ρ : PEnv) (σ : L2.St) (F H : Hp) : Hp := fun b => if OwnA own ρ σ b then H b else F b
open Classical in
noncomputable def cutF (own : List Nat) (ρ : PEnv) (σ : L2.St) (F : Hp) : Hp := fun b => if OwnA own ρ σ b then none else F b
theorem RepO.mut {K : PySem.W.Frag} {F : Hp} {o : HO} {d : D} (h : RepO K F o d) : isMut o := by cases h <;> trivial
theorem RepO.rep {K : PySem.W.Frag} {F : Hp} {a : Addr} {o : HO} {d : D} (h : RepO K F o d) (ha : F a = some o) : Rep K F (.ref a) d := by
  cases h with
  | lst r => exact .lst ha r
  | ins e r => exact .ins ha e r
  | dic e r => exact .dic ha e r
  | dit e r => exact .dit ha e r
section
variable {K : PySem.W.Frag} {S0 S S' : List Addr} {F0 H0 F H F' H' : Hp} {own : List Nat} {ρ : PEnv} {R R' : Rs} {σ : L2.St} {E : XK}
theorem SIn.own_none (s : SIn K S0 F0 H0 own ρ R σ S F H) {b : Addr} (h : OwnA own ρ σ b) : F b = none ∧ b ∉ S ∧ H0 b = none ∧ ∃ o, H b = some o ∧ isMut o := by
  obtain ⟨i, hi, d, h1, h2⟩ := h
  obtain ⟨v, h3, a, o, rfl, h5, h6, h7, h8, h9⟩ := s.ow i hi d h1
  rw [h2] at h3
  cases h3
  exact ⟨h7, h8, h9, o, h5, h6.mut⟩
theorem SIn.f_allF (s : SIn K S0 F0 H0 own ρ R σ S F H) : Same F (allF own ρ σ F H) := fun b u e => by
  unfold allF
  split
  · rename_i h
    rw [(s.own_none h).1] at e; cases e
  · exact e
theorem SIn.allF_h (s : SIn K S0 F0 H0 own ρ R σ S F H) : Same (allF own ρ σ F H) H := fun b u e => by
  unfold allF at e
  split at e
  · exact e
  · exact s.same b u e
/-- the view with all slots -/
theorem SIn.full (s : SIn K S0 F0 H0 own ρ R σ S F H) : View K S (allF own ρ σ F H) H ρ R σ := by
  refine ⟨s.allF_h, fun i d h => ?_, s.cells.froz s.f_allF fun b hb => ?_, s.len⟩
  · by_cases hi : i ∈ own
    · obtain ⟨v, h1, a, o, rfl, h3, h4, h5, h6, h7⟩ := s.ow i hi d h
      refine ⟨_, h1, .inl ((h4.mono s.f_allF).rep ?_)⟩
      unfold allF
      rw [if_pos ⟨i, hi, d, h, h1⟩]; exact h3
    · obtain ⟨v, h1, h2⟩ := s.sh i d h hi
      exact ⟨v, h1, h2.mono (List.prefix_refl _) s.f_allF⟩
  · unfold allF
    rw [if_neg fun z => (s.own_none z).2.1 hb]
    exact (s.cells.has hb).1
/-- behind an expression that saw all slots -/
theorem SIn.onG (s : SIn K S0 F0 H0 own ρ R σ S F H) (e : Ext S (allF own ρ σ F H) H S' F' H') (c : Cells K S' F' H' R') (hR : R'.all immO = true) : SIn K S0 F0 H0 own ρ R' σ S' (cutF own ρ σ F') H' ∧ ∀ a o, F' a = some o → (∀ z, o = z → ¬ isMut z) → cutF own ρ σ F' a = some o := by
  have hT : ∀ a o, F' a = some o → (∀ z, o = z → ¬ isMut z) → cutF own ρ σ F' a = some o := fun a u h hm => by
    unfold cutF
    split
    · rename_i ho
      obtain ⟨h1, h2, h3, o, h4, h5⟩ := s.own_none ho
      have := e.fr a o h4 h2
      rw [e.fh a _ h] at this
      cases this
      exact (hm _ rfl h5).elim
    · exact h
  have hF : Same F (cutF own ρ σ F') := fun b u h => by
    unfold cutF
    split
    · rename_i ho
      rw [(s.own_none ho).1] at h; cases h
    · exact e.f b u (s.f_allF b u h)
  have hcF : Same (cutF own ρ σ F') H' := fun b u h => by
    unfold cutF at h
    split at h
    · cases h
    · exact e.fh b u h
  have hle : ∀ b, F' b = none → cutF own ρ σ F' b = none := fun b h => by
    unfold cutF; split
    · rfl
    · exact h
  refine ⟨⟨⟨s.ext.s.trans e.s, s.ext.f.trans hF, hcF, fun b u h hb => ?_, fun b u h => ?_, fun b u h hb => ?_, fun b h1 h2 => ?_⟩, ⟨c.len, fun i a d h1 h2 => ?_, c.nd⟩, fun i d h1 h2 => ?_, fun i hi d h => ?_, s.ap, s.len⟩, hT⟩
  · have h3 := s.ext.fr b u h hb
    refine e.fr b u h3 fun z => ?_
    have := s.ext.sn b z hb
    rw [h] at this; cases this
  · obtain ⟨u1, h3⟩ := s.ext.th b u h
    exact e.th b u1 h3
  · obtain ⟨u1, h3⟩ := s.ext.th b u h
    have h4 := s.ext.nw b u h hb
    by_cases ho : OwnA own ρ σ b
    · unfold cutF; rw [if_pos ho]
    · refine hle b (e.nw b u1 h3 ?_)
      unfold allF; rw [if_neg ho]; exact h4
  · by_cases hb : b ∈ S
    · exact s.ext.sn b hb h2
    · have := e.sn b h1 hb
      cases q : H0 b with
      | none => rfl
      | some u =>
        obtain ⟨u1, h3⟩ := s.ext.th b u q
        rw [this] at h3; cases h3
  · obtain ⟨n, o, h3, h4⟩ := c.at_ i a d h1 h2
    have hd : immO d = true := List.all_eq_true.mp hR d (List.mem_of_getElem? h2)
    exact ⟨hle a n, o, h3, h4.imm hT hd⟩
  · obtain ⟨v, h3, h4⟩ := s.sh i d h1 h2
    exact ⟨v, h3, h4.mono e.s hF⟩
  · obtain ⟨v, h1, a, o, rfl, h3, h4, h5, h6, h7⟩ := s.ow i hi d h
    refine ⟨_, h1, a, o, rfl, e.fr a o h3 h6, h4.mono hF, ?_, fun z => ?_, h7⟩
    · unfold cutF; rw [if_pos ⟨i, hi, d, h, h1⟩]
    · have := e.sn a z h6
      rw [h3] at this; cases this
end
/-! ### statements -/
def gNext : GS := fun ρ R => .nx ρ R
def gSeq (g1 g2 : GS) : GS := fun ρ R => match g1 ρ R with
  | .nx ρ1 R1 => g2 ρ1 R1
  | o => o
/-- how an expression is seen: .f without the owned slots, .g with all of them (then its value must hold no cells that may change) -/
inductive Md where | f | g
def see (m : Md) (own : List Nat) (ρ : PEnv) : PEnv := match m with
  | .f => hide own ρ
  | .g => ρ
def okM (m : Md) (d : D) (R : Rs) : Bool := match m with
  | .f => true
  | .g => d.imm && R.all immO
def okR (m : Md) (R : Rs) : Bool := match m with
  | .f => true
  | .g => R.all immO
def Res.out {α : Type} (r : Res α) (k : α → Rs → Out) : Out := match r with
  | .ok a R => k a R
  | .exc c fs R => .exc c fs R
  | .bad => .bad
@[simp] theorem Res.out_ok {α : Type} (a : α) (R : Rs) (k : α → Rs → Out) : (Res.ok a R).out k = k a R := rfl
@[simp] theorem Res.out_exc {α : Type} (c : Str) (fs : List (Str × D)) (R : Rs) (k : α → Rs → Out) : (Res.exc c fs R : Res α).out k = .exc c fs R := rfl
@[simp] theorem Res.out_bad {α : Type} (k : α → Rs → Out) : (Res.bad : Res α).out k = .bad := rfl
section
variable {X : Cx} {E : XK} {own own' own'' ol : List Nat} {st : Stmt} {sts rest : List Stmt} {g1 g2 : GS} {g : G} {t : GT} {gs : GA} {e : Expr} {pos : Pos} {K : PySem.W.Frag} {S0 S S' : List Addr} {F0 H0 F H F' H' : Hp} {ρ : PEnv} {R R' : Rs} {σ : L2.St}
theorem sts_nil : Sts X E own own ol [] gNext := pss_imp pss_nil fun Dn σ H ⟨S0, F0, H0, ρ, R, s, h⟩ => h σ H s
theorem WpS.seq {Dn : Ends} (h : WpS K E S0 F0 H0 own'' ol (gSeq g1 g2 ρ R) Dn) : WpS K E S0 F0 H0 own' ol (g1 ρ R) { Dn with nx := tS K E own' own'' ol g2 Dn } := by
  unfold gSeq at h
  cases q : g1 ρ R with
  | nx ρ1 R1 => rw [q] at h; exact fun σ H s => ⟨S0, F0, H0, ρ1, R1, s, h⟩
  | _ => rw [q] at h; exact h
theorem sts_cons (h1 : Stm X E own own' ol st g1) (h2 : Sts X E own' own'' ol rest g2) : Sts X E own own'' ol (st :: rest) (gSeq g1 g2) := pss_imp (pss_cons h1 h2) fun Dn σ H ⟨S0, F0, H0, ρ, R, s, h⟩ => ⟨S0, F0, H0, ρ, R, s, h.seq⟩
theorem sts_one (h1 : Stm X E own own' ol st g1) : Sts X E own own' ol [st] g1 := pss_one h1
/-- an expression within a statement -/
theorem see_wp {α β : Type} {rep : List Addr → Hp → β → α → Prop} {m : Md} {r : PEnv → Rs → Res α} {k : α → Rs → Out} {Dn : Ends} {Q : β → Hp → Prop} (hX : K = X.K) (s : SRel X.K S0 F0 H0 own ρ R σ H) (h : WpS X.K E S0 F0 H0 own' ol ((r (see m own ρ) R).out k) Dn)
    (hq : ∀ b a R1 S F S1 F1 H1, SIn X.K S0 F0 H0 own ρ R σ S F H → (m = .f → Ext S F H S1 F1 H1) → (m = .g → Ext S (allF own ρ σ F H) H S1 F1 H1) → Cells X.K S1 F1 H1 R1 → rep S1 F1 b a → Ext S0 F0 H0 S1 F1 H1 → WpS X.K E S0 F0 H0 own' ol (k a R1) Dn → Q b H1) : tG X.K E rep r σ H Q := by
  obtain ⟨S, F, s⟩ := s
  have extG : Ext S0 F0 H0 S (allF own ρ σ F H) H := ⟨s.ext.s, s.ext.f.trans s.f_allF, s.allF_h, s.ext.fr, s.ext.th, fun b u h1 h2 => by
    have h3 := s.ext.nw b u h1 h2
    unfold allF
    split
    · rename_i ho
      have := (s.own_none ho).2.2.1
      rw [h1] at this; cases this
    · exact h3, s.ext.sn⟩
  cases m with
  | f =>
    refine ⟨S, F, hide own ρ, R, s.view, ?_⟩
    cases q : r (hide own ρ) R with
    | ok a R1 =>
      simp only [see, q] at h
      exact fun b S1 F1 H1 e1 c1 rb => hq b a R1 S F S1 F1 H1 s (fun _ => e1) (fun z => nomatch z) c1 rb (s.ext.trans e1) h
    | exc c fs R1 =>
      simp only [see, q] at h
      exact fun d S1 F1 H1 e1 c1 rb => h d S1 F1 H1 (s.ext.trans e1) c1 rb
    | bad => simp only [see, q] at h; exact h
  | g =>
    refine ⟨S, _, ρ, R, s.full, ?_⟩
    cases q : r ρ R with
    | ok a R1 =>
      simp only [see, q] at h
      exact fun b S1 F1 H1 e1 c1 rb => hq b a R1 S F S1 F1 H1 s (fun z => nomatch z) (fun _ => e1) c1 rb (extG.trans e1) h
    | exc c fs R1 =>
      simp only [see, q] at h
      exact fun d S1 F1 H1 e1 c1 rb => h d S1 F1 H1 (extG.trans e1) c1 rb
    | bad => simp only [see, q] at h; exact h
/-- .. where a value came, the state goes on with it -/
theorem SIn.seen {m : Md} {v : V} {d : D} {R1 : Rs} {S1 : List Addr} {F1 H1 : Hp} (s : SIn K S0 F0 H0 own ρ R σ S F H) (ef : m = .f → Ext S F H S1 F1 H1) (eg : m = .g → Ext S (allF own ρ σ F H) H S1 F1 H1) (c : Cells K S1 F1 H1 R1) (r : Rep K F1 v d) (hm : okM m d R1 = true) :
    ∃ F2, SIn K S0 F0 H0 own ρ R1 σ S1 F2 H1 ∧ Rep K F2 v d := by
  cases m with
  | f => exact ⟨F1, s.on (ef rfl) c, r⟩
  | g =>
    have hm2 : d.imm = true ∧ R1.all immO = true := by simpa [okM] using hm
    obtain ⟨h1, h2⟩ := s.onG (eg rfl) c hm2.2
    exact ⟨_, h1, r.imm h2 hm2.1⟩
theorem SIn.seenR {m : Md} {R1 : Rs} {S1 : List Addr} {F1 H1 : Hp} (s : SIn K S0 F0 H0 own ρ R σ S F H) (ef : m = .f → Ext S F H S1 F1 H1) (eg : m = .g → Ext S (allF own ρ σ F H) H S1 F1 H1) (c : Cells K S1 F1 H1 R1) (hm : okR m R1 = true) :
    ∃ F2, SIn K S0 F0 H0 own ρ R1 σ S1 F2 H1 ∧ (∀ a o, F1 a = some o → (∀ z, o = z → ¬ isMut z) → F2 a = some o) := by
  cases m with
  | f => exact ⟨F1, s.on (ef rfl) c, fun _ _ h _ => h⟩
  | g =>
    obtain ⟨h1, h2⟩ := s.onG (eg rfl) c (by simpa [okR] using hm)
    exact ⟨_, h1, h2⟩
/-- x = e -/
def gSet (m : Md) (own : List Nat) (i : Nat) (g : G) : GS := fun ρ R => (g (see m own ρ) R).out fun d R1 => if okM m d R1 && !own.contains i then .nx (ρ.set i (some d)) R1 else .bad
theorem tSet_of {m : Md} {i : Nat} {Dn : Ends} (h : tS X.K E own own ol (gSet m own i g) Dn σ H) : tAsg (tP X.K E g) (gName i) Dn σ H := by
  obtain ⟨S0, F0, H0, ρ, R, s, h⟩ := h
  refine see_wp rfl s h fun v d R1 S F S1 F1 H1 s ef eg c r _ h1 => ?_
  split at h1
  · rename_i hc
    simp only [Bool.and_eq_true, Bool.not_eq_true', List.contains_eq_mem, decide_eq_false_iff_not] at hc
    obtain ⟨F2, s2, r2⟩ := s.seen ef eg c r hc.1
    exact h1 _ _ ⟨_, _, s2.set hc.2 (.inl r2)⟩
  · exact h1.elim
theorem st_set (m : Md) {i : Nat} {x : Str} {pos' : Pos} (hN : X.N.Nodup) (hi : X.N[i]? = some x) (hx : Loc X.env.scope x) (he : Ev X E e g) (hs : swapsWith e (some (.Name x pos')) pos.line X.env = pure false := by rfl) (hf : X.fn x = true ∨ X.env.scope.names.lookup x = some .local := by first | exact .inl rfl | exact .inr rfl | assumption) :
    Stm X E own own ol (.Assign [.Name x pos'] e pos) (gSet m own i g) := ps_imp (ps_set hN hi hx he hs hf) fun _ _ _ => tSet_of
/-- an expression whose value is dropped -/
def gDrop (m : Md) (own : List Nat) (g : G) : GS := fun ρ R => (g (see m own ρ) R).out fun d R1 => if okR m R1 then .nx ρ R1 else .bad
theorem st_expr (m : Md) (he : Ev X E e g) (hs : swapsWith e none pos.line X.env = pure false := by rfl) : Stm X E own own ol (.Expr e pos) (gDrop m own g) := ps_imp (ps_expr he hs) fun Dn σ H ⟨S0, F0, H0, ρ, R, s, h⟩ => by
  refine see_wp rfl s h fun v d R1 S F S1 F1 H1 s ef eg c r _ h1 => ?_
  split at h1
  · rename_i hc
    obtain ⟨F2, s2, _⟩ := s.seenR ef eg c hc
    exact h1 _ _ ⟨_, _, s2⟩
  · exact h1.elim
/-- return e -/
def gRet (g : G) : GS := fun ρ R => (g ρ R).out fun d R1 => .rt d R1
theorem st_ret (he : Ev X E e g) : Stm X E own own' ol (.Return (some e) pos) (gRet g) := ps_imp (ps_ret he) fun Dn σ H ⟨S0, F0, H0, ρ, R, s, h⟩ => by
  exact see_wp (m := .g) rfl s h fun v d R1 S F S1 F1 H1 s ef eg c r e h1 => h1 v S1 F1 H1 e c r
def gRetN : GS := fun ρ R => .rt .non R
theorem st_retN : Stm X E own own' ol (.Return none pos) gRetN := ps_imp ps_retN fun Dn σ H ⟨S0, F0, H0, ρ, R, ⟨S, F, s⟩, h⟩ => h .non S F H s.ext s.cells .non
def gBrk : GS := fun ρ R => .bk ρ R
def gCnt : GS := fun ρ R => .ct ρ R
theorem st_break : Stm X E own own' own (.Break pos) gBrk := ps_imp ps_break fun Dn σ H ⟨S0, F0, H0, ρ, R, s, h⟩ => h σ H s
theorem st_continue : Stm X E own own' own (.Continue pos) gCnt := ps_imp ps_continue fun Dn σ H ⟨S0, F0, H0, ρ, R, s, h⟩ => h σ H s
theorem st_pass : Stm X E own own ol (.Pass pos) gNext := ps_imp ps_pass fun Dn σ H ⟨S0, F0, H0, ρ, R, s, h⟩ => h σ H s
def gNever : GS := fun _ _ => .bad
theorem st_never : Stm X E own own' ol st gNever := ps_imp ps_never fun Dn σ H ⟨S0, F0, H0, ρ, R, s, h⟩ => h
/-- if -/
def gIfS (m : Md) (own : List Nat) (t : GT) (g1 g2 : GS) : GS := fun ρ R => (t (see m own ρ) R).out fun b R1 => if okR m R1 then match b with
  | true => g1 ρ R1
  | false => g2 ρ R1
  else .bad
theorem st_if (m : Md) {c : Expr} {a b : List Stmt} (hc : EvT X E c t) (ha : Sts X E own own' ol a g1) (hb : Sts X E own own' ol b g2) : Stm X E own own' ol (.If c a b pos) (gIfS m own t g1 g2) := ps_imp (ps_if hc ha hb) fun Dn σ H ⟨S0, F0, H0, ρ, R, s, h⟩ => by
  refine see_wp rfl s h fun v d R1 S F S1 F1 H1 s ef eg c r _ h1 => ?_
  subst r
  split at h1
  · rename_i hc
    obtain ⟨F2, s2, _⟩ := s.seenR ef eg c hc
    cases v with
    | true => exact ⟨S0, F0, H0, ρ, R1, ⟨_, _, s2⟩, h1⟩
    | false => exact ⟨S0, F0, H0, ρ, R1, ⟨_, _, s2⟩, h1⟩
  · exact h1.elim
/-- x += e, ints -/
def gAug (m : Md) (own : List Nat) (i : Nat) (f : D → D → Rs → Res D) (g : G) : GS := fun ρ R => match (hide own ρ)[i]? with
  | some (some (.int x)) => (g (see m own ρ) R).out fun d R1 => if okR m R1 && !own.contains i then (f (.int x) d R1).out fun z R2 => match z with
    | .int w => .nx (ρ.set i (some (.int w))) R2
    | _ => .bad
    else .bad
  | _ => .bad
theorem gAug_wp {m : Md} {i : Nat} {f : Int → Int → Int} {Dn : Ends} (h : tS X.K E own own ol (gAug m own i (iop0 fun a b => .int (f a b)) g) Dn σ H) : tAug i (tP X.K E g) (ipI fun a b => f a b) Dn σ H := by
  obtain ⟨S0, F0, H0, ρ, R, s, h⟩ := h
  unfold gAug at h
  split at h
  · rename_i x hx
    obtain ⟨h1, h2⟩ := hide_get own ρ i _ hx
    have s0 := s
    obtain ⟨S, F, s1⟩ := s0
    obtain ⟨v, h3, h4⟩ := s1.sh i _ h1 h2
    have h4' := h4.rep rfl
    cases h4'
    refine ⟨_, h3, see_wp rfl s h fun v d R1 S F S1 F1 H1 s ef eg c r _ h1 => ?_⟩
    split at h1
    · rename_i hc
      simp only [Bool.and_eq_true, Bool.not_eq_true', List.contains_eq_mem, decide_eq_false_iff_not] at hc
      obtain ⟨F2, s2, _⟩ := s.seenR ef eg c hc.1
      cases d with
      | int y =>
        cases r
        refine ⟨x, y, rfl, rfl, ?_⟩
        exact h1 _ _ ⟨_, _, s2.set hc.2 (.inl (.int _))⟩
      | _ => exact h1.elim
    · exact h1.elim
  · exact h.elim
end
end Pv

namespace Pv
open PySem PySem.Spec PyProof.Rows L2 Sr
/-! ### targets -/
inductive Upds (K : PySem.W.Frag) (F : Hp) (vs : List Nat) (ρ : PEnv) (σ : L2.St) : PEnv → L2.St → Prop
  | refl : Upds K F vs ρ σ ρ σ
  | step {ρ' : PEnv} {σ' : L2.St} {i : Nat} {v : V} {d : D} : Upds K F vs ρ σ ρ' σ' → i ∈ vs → Rep K F v d → Upds K F vs ρ σ (ρ'.set i (some d)) (σ'.set i (some v))
abbrev TD := D → PEnv → Option PEnv
abbrev TDs := List D → PEnv → Option PEnv
def TgD (K : PySem.W.Frag) (t : TG) (T : TD) (vs : List Nat) : Prop := ∀ (F H : Hp) (v : V) (d : D) (ρ0 : PEnv) (σ0 : L2.St) (σ : L2.St) (ρ ρ' : PEnv) (Q : L2.St → Hp → Prop), Same F H → Rep K F v d → T d ρ = some ρ' → Upds K F vs ρ0 σ0 ρ σ → (∀ σ', Upds K F vs ρ0 σ0 ρ' σ' → Q σ' H) → t v σ H Q
def TgsD (K : PySem.W.Frag) (t : TGs) (T : TDs) (vs : List Nat) : Prop := ∀ (F H : Hp) (v : List V) (d : List D) (ρ0 : PEnv) (σ0 : L2.St) (σ : L2.St) (ρ ρ' : PEnv) (Q : L2.St → Hp → Prop), Same F H → Reps K F v d → T d ρ = some ρ' → Upds K F vs ρ0 σ0 ρ σ → (∀ σ', Upds K F vs ρ0 σ0 ρ' σ' → Q σ' H) → t v σ H Q
def dName (i : Nat) : TD := fun d ρ => some (ρ.set i (some d))
def dGNil : TDs := fun ds ρ => match ds with
  | [] => some ρ
  | _ => none
def dGCons (T : TD) (U : TDs) : TDs := fun ds ρ => match ds with
  | d :: r => (T d ρ).bind fun ρ1 => U r ρ1
  | [] => none
def dGTup (n : Nat) (U : TDs) : TD := fun d ρ => match d with
  | .tup ds => if ds.length = n then U ds ρ else none
  | _ => none
def dGLst (n : Nat) (U : TDs) : TD := fun d ρ => match d with
  | .lst ds => if ds.length = n then U ds ρ else none
  | _ => none
section
variable {K : PySem.W.Frag} {vs : List Nat}
theorem tg_name {i : Nat} (hi : i ∈ vs) : TgD K (gName i) (dName i) vs := fun F H v d ρ0 σ0 σ ρ ρ' Q hs r h u k => by
  cases h
  exact k _ (.step u hi r)
theorem tgs_nil : TgsD K L2.gNil dGNil vs := fun F H v d ρ0 σ0 σ ρ ρ' Q hs r h u k => by
  unfold dGNil at h
  split at h
  · cases h; cases r; exact ⟨rfl, k _ u⟩
  · cases h
theorem tgs_cons {t : TG} {ts : TGs} {T : TD} {U : TDs} (h1 : TgD K t T vs) (h2 : TgsD K ts U vs) : TgsD K (L2.gCons t ts) (dGCons T U) vs := fun F H v d ρ0 σ0 σ ρ ρ' Q hs r h u k => by
  cases r with
  | nil => cases h
  | @cons v0 d0 vs0 rest r rr =>
    have h : (T d0 ρ).bind (fun ρ1 => U rest ρ1) = some ρ' := h
    cases q : T d0 ρ with
    | none => rw [q] at h; cases h
    | some ρ2 =>
      rw [q] at h
      exact ⟨_, _, rfl, h1 F H _ _ ρ0 σ0 σ _ _ _ hs r q u fun σ' u' => h2 F H _ _ ρ0 σ0 σ' _ _ _ hs rr h u' k⟩
theorem tg_tup {n : Nat} {ts : TGs} {U : TDs} (h2 : TgsD K ts U vs) : TgD K (L2.gTup K n ts) (dGTup n U) vs := fun F H v d ρ0 σ0 σ ρ ρ' Q hs r h u k => by
  unfold dGTup at h
  split at h
  · split at h
    · rename_i hl
      cases r with
      | tup hf rs => exact ⟨_, _, rfl, SqT.of (hs _ _ hf), by rw [rs.length]; exact hl, h2 F H _ _ ρ0 σ0 σ _ _ _ hs rs h u k⟩
    · cases h
  · cases h
/-! ### what the updates keep -/
theorem Upds.len {F : Hp} {ρ ρ' : PEnv} {σ σ' : L2.St} (u : Upds K F vs ρ σ ρ' σ') : ρ'.length = ρ.length ∧ σ'.length = σ.length := by
  induction u with
  | refl => exact ⟨rfl, rfl⟩
  | step _ _ _ ih => simpa using ih
theorem Upds.sin {S0 S : List Addr} {F0 H0 F H : Hp} {own : List Nat} {ρ ρ' : PEnv} {R : Rs} {σ σ' : L2.St} (u : Upds K F vs ρ σ ρ' σ') (hv : ∀ i ∈ vs, i ∉ own) (s : SIn K S0 F0 H0 own ρ R σ S F H) : SIn K S0 F0 H0 own ρ' R σ' S F H := by
  induction u with
  | refl => exact s
  | step _ hi r ih => exact ih.set (hv _ hi) (.inl r)
theorem Upds.view {S : List Addr} {F H : Hp} {ρ ρ' : PEnv} {R : Rs} {σ σ' : L2.St} (u : Upds K F vs ρ σ ρ' σ') (s : View K S F H ρ R σ) : View K S F H ρ' R σ' := by
  induction u with
  | refl => exact s
  | step u hi r ih =>
    rename_i ρ1 σ1 i v d
    refine ⟨s.fh, fun j d' h => ?_, s.cells, by simpa using ih.len⟩
    by_cases e : i = j
    · subst e
      have hll : ρ1.length = σ1.length := ih.len
      rw [List.getElem?_set] at h ⊢
      simp only [if_true] at h ⊢
      rw [hll] at h
      split at h
      · rename_i h3
        cases h
        exact ⟨v, by rw [if_pos h3], .inl r⟩
      · cases h
    · rw [List.getElem?_set_ne e] at h ⊢
      exact ih.env j d' h
theorem wipe_set {σ : L2.St} {i : Nat} {v : Option V} : ∀ {vs : List Nat}, i ∈ vs → wipe (σ.set i v) vs = wipe σ vs
  | [], h => by simp at h
  | w :: ws, h => by
    by_cases hw : i ∈ ws
    · show (wipe (σ.set i v) ws).set w none = (wipe σ ws).set w none
      rw [wipe_set hw]
    · have e : w = i := by
        rcases List.mem_cons.mp h with z | z
        · exact z.symm
        · exact absurd z hw
      subst e
      have gen : ∀ us : List Nat, w ∉ us → wipe (σ.set w v) us = (wipe σ us).set w v := by
        intro us
        induction us with
        | nil => intro _; rfl
        | cons u us ih =>
          intro hu
          show (wipe (σ.set w v) us).set u none = ((wipe σ us).set u none).set w v
          rw [ih (fun z => hu (List.mem_cons_of_mem _ z)), List.set_comm]
          exact fun z => hu (by simp [z])
      show (wipe (σ.set w v) ws).set w none = (wipe σ ws).set w none
      rw [gen ws hw, List.set_set]
theorem Upds.wipe {F : Hp} {ρ ρ' : PEnv} {σ σ' : L2.St} (u : Upds K F vs ρ σ ρ' σ') : L2.wipe σ' vs = L2.wipe σ vs := by
  induction u with
  | refl => rfl
  | step _ hi _ ih => rw [wipe_set hi]; exact ih
end
/-! ### what is walked -/
def WalkD (K : PySem.W.Frag) (F : Hp) (J : It) (ds : List D) : Prop := ∃ Y : Nat → Hp → V → Hp → Prop, Walk J ds.length (fun H => Same F H) Y ∧
  ∀ i d H x H2 F1, ds[i]? = some d → Same F F1 → Same F1 H → Y i H x H2 → Same H H2 ∧ ∃ F2, (∀ S, Ext S F1 H S F2 H2) ∧ Rep K F2 x d
abbrev GI := PEnv → Rs → Res (List D)
abbrev EvI (X : Cx) (E : XK) (tg iter : Expr) (g : GI) : Prop := PI X tg iter (tG X.K E (fun _ F J ds => WalkD X.K F J ds) g)
/-- .. whatever is frozen -/
abbrev EvIA (X : Cx) (E : XK) (tg iter : Expr) (g : GI) : Prop := PI X tg iter (tG X.K E (fun _ _ J ds => ∀ F, WalkD X.K F J ds) g)
theorem Cells.pure {K : PySem.W.Frag} {S : List Addr} {F H F1 H1 : Hp} {R : Rs} (c : Cells K S F H R) (e : Ext S F H S F1 H1) (hs : Same H H1) : Cells K S F1 H1 R :=
  ⟨c.len, fun i a d h1 h2 => by
    obtain ⟨n, o, h3, h4⟩ := c.at_ i a d h1 h2
    exact ⟨e.nw a o h3 n, o, hs _ _ h3, h4.mono e.f⟩, c.nd⟩
section
variable {X : Cx} {E : XK} {tg e : Expr} {g : G} {gs : GA} {K : PySem.W.Frag}
theorem walkD_at {F : Hp} {J : It} {xs : List V} {ds : List D} (r : Reps K F xs ds) (w : Walk J xs.length (fun H => Same F H) (YAt xs)) : WalkD K F J ds := by
  refine ⟨YAt xs, by rw [← r.length]; exact w, fun i d H x H2 F1 hd h1 h2 y => ?_⟩
  obtain ⟨rfl, hx⟩ := y
  obtain ⟨d', h3, h4⟩ := r.getV hx
  rw [hd] at h3
  cases h3
  exact ⟨.refl _, F1, fun S => .refl h2, h4.mono h1⟩
def lstOf : D → Rs → Res (List D) := fun d R => match d with
  | .lst ds => .ok ds R
  | _ => .bad
def tupOf : D → Rs → Res (List D) := fun d R => match d with
  | .tup ds => .ok ds R
  | .arm ds => .ok ds R
  | _ => .bad
def gIt (f : D → Rs → Res (List D)) (g : G) : GI := fun ρ R => (g ρ R).bind f
theorem evi_list (h : Ev X E e g) : EvI X E tg e (gIt lstOf g) := pi_imp (pi_list h) fun σ H Q ⟨S, F, ρ, R, v, h⟩ => by
  refine ⟨S, F, ρ, R, v, Wp.bind h fun x S1 F1 H1 dx R1 e1 c1 rx h1 => ?_⟩
  unfold lstOf at h1
  split at h1
  · cases rx with
    | lst hf rs =>
    refine ⟨_, rfl, ⟨_, SqL.of (e1.fh _ _ hf)⟩, h1.now e1.fh c1 (walkD_at rs (walk_list.mono (fun H h => SqL.of (h _ _ hf)) fun _ _ _ _ _ _ y => y))⟩
  · exact h1.elim
theorem evi_tup (h : Ev X E e g) : EvI X E tg e (gIt tupOf g) := pi_imp (pi_tup h) fun σ H Q ⟨S, F, ρ, R, v, h⟩ => by
  refine ⟨S, F, ρ, R, v, Wp.bind h fun x S1 F1 H1 dx R1 e1 c1 rx h1 => ?_⟩
  unfold tupOf at h1
  split at h1
  · cases rx with
    | tup hf rs =>
    refine ⟨_, rfl, ⟨_, SqT.of (e1.fh _ _ hf)⟩, h1.now e1.fh c1 (walkD_at rs (walk_tup.mono (fun H h => SqT.of (h _ _ hf)) fun _ _ _ _ _ _ y => y))⟩
  · cases rx with
    | arm hf _ rs =>
    refine ⟨_, rfl, ⟨_, .inl (.inr ⟨_, e1.fh _ _ hf⟩)⟩, h1.now e1.fh c1 (walkD_at rs (walk_tup.mono (fun H h => .inl (.inr ⟨_, h _ _ hf⟩)) fun _ _ _ _ _ _ y => y))⟩
  · exact h1.elim
def rngD (lo : Int) (n : Nat) : List D := (List.range n).map fun k => .int (lo + (k : Nat))
theorem rngD_len (lo : Int) (n : Nat) : (rngD lo n).length = n := by simp [rngD]
theorem walkD_rng (lo : Int) (n : Nat) (F : Hp) : WalkD K F (Itr lo n) (rngD lo n) := by
  refine ⟨_, by rw [rngD_len]; exact walk_range.mono (fun H _ => trivial) fun _ _ _ _ _ _ y => y, fun i d H x H2 F1 hd h1 h2 y => ?_⟩
  obtain ⟨rfl, rfl⟩ := y
  have hi : i < n := by rw [← rngD_len lo n]; exact (List.getElem?_eq_some_iff.mp hd).1
  have e : d = .int (lo + (i : Nat)) := by
    unfold rngD at hd
    rw [List.getElem?_map, List.getElem?_range hi] at hd
    cases hd; rfl
  subst e
  exact ⟨.refl _, F1, fun S => .refl h2, .int _⟩
def inB (i : Int) : Bool := decide (-(2 ^ 62) ≤ i) && decide (i < 2 ^ 62)
def rng1 : List D → Rs → Res (List D) := fun ds R => match ds with
  | [.int j] => if inB j then .ok (rngD 0 j.toNat) R else .bad
  | _ => .bad
def rng2 : List D → Rs → Res (List D) := fun ds R => match ds with
  | [.int i, .int j] => if inB i && inB j then .ok (rngD i (j - i).toNat) R else .bad
  | _ => .bad
def gItA (f : List D → Rs → Res (List D)) (gs : GA) : GI := fun ρ R => (gs ρ R).bind f
theorem evi_rng1 {a : Expr} {p pos : Pos} (hg : Gl X "range") (hm : X.mg "range" = none) (ha : EvA X E [a] gs) (hs : starEach [a] X.env = [(false, eval a X.env)] := by rfl) : EvIA X E tg (.Call (.Name "range" p) [a] [] pos) (gItA rng1 gs) := pi_imp (pi_range1 hg hm ha hs) fun σ H Q ⟨S, F, ρ, R, v, h⟩ => by
  refine ⟨S, F, ρ, R, v, Wp.bind h fun x S1 F1 H1 dx R1 e1 c1 rx h1 => ?_⟩
  unfold rng1 at h1
  split at h1
  · split at h1
    · rename_i hb
      simp only [inB, Bool.and_eq_true, decide_eq_true_eq] at hb
      cases rx with
      | cons r rr =>
      cases rr
      cases r
      exact ⟨_, rfl, hb.1, hb.2, h1.now e1.fh c1 (walkD_rng _ _)⟩
    · exact h1.elim
  · exact h1.elim
theorem evi_rng2 {a b : Expr} {p pos : Pos} (hg : Gl X "range") (hm : X.mg "range" = none) (ha : EvA X E [a, b] gs) (hs : starEach [a, b] X.env = [(false, eval a X.env), (false, eval b X.env)] := by rfl) (hs2 : starEach [b] X.env = [(false, eval b X.env)] := by rfl) : EvIA X E tg (.Call (.Name "range" p) [a, b] [] pos) (gItA rng2 gs) := pi_imp (pi_range2 hg hm ha hs hs2) fun σ H Q ⟨S, F, ρ, R, v, h⟩ => by
  refine ⟨S, F, ρ, R, v, Wp.bind h fun x S1 F1 H1 dx R1 e1 c1 rx h1 => ?_⟩
  unfold rng2 at h1
  split at h1
  · split at h1
    · rename_i hb
      simp only [inB, Bool.and_eq_true, decide_eq_true_eq] at hb
      cases rx with
      | cons r rr =>
      cases rr with
      | cons r2 rr =>
      cases rr
      cases r
      cases r2
      exact ⟨_, _, rfl, ⟨hb.1.1, hb.1.2, hb.2.1, hb.2.2⟩, h1.now e1.fh c1 (walkD_rng _ _)⟩
    · exact h1.elim
  · exact h1.elim
theorem evi_of {g : GI} (h : EvIA X E tg e g) : EvI X E tg e g := pi_imp h fun σ H Q ⟨S, F, ρ, R, v, h⟩ => by
  refine ⟨S, F, ρ, R, v, ?_⟩
  cases q : g ρ R with
  | ok a R1 => rw [q] at h; exact fun b S1 F1 H1 e1 c1 r => h b S1 F1 H1 e1 c1 (r F1)
  | exc c fs R1 => rw [q] at h; exact h
  | bad => rw [q] at h; exact h
theorem evi_listK {K : PySem.W.Frag} (hK : X.K = K) (h : PE X e (tP K E g)) : PI X tg e (tG K E (fun _ F J ds => WalkD K F J ds) (gIt lstOf g)) := by subst hK; exact evi_list h
theorem evi_tupK {K : PySem.W.Frag} (hK : X.K = K) (h : PE X e (tP K E g)) : PI X tg e (tG K E (fun _ F J ds => WalkD K F J ds) (gIt tupOf g)) := by subst hK; exact evi_tup h
end
end Pv

namespace Pv
open PySem PySem.Spec PyProof.Rows L2 Sr
/-! ### for -/
def loopG (T : TD) (b : GS) : List D → PEnv → Rs → Out
  | [], ρ, R => .nx ρ R
  | d :: ds, ρ, R => match T d ρ with
    | none => .bad
    | some ρ1 => match b ρ1 R with
      | .nx ρ2 R2 => loopG T b ds ρ2 R2
      | .ct ρ2 R2 => loopG T b ds ρ2 R2
      | .bk ρ2 R2 => .nx ρ2 R2
      | o => o
def gFor (m : Md) (own vs : List Nat) (it : GI) (T : TD) (b : GS) : GS := fun ρ R => (it (see m own ρ) R).out fun ds R1 => if okR m R1 && vs.all (fun i => !own.contains i) then loopG T b ds ρ R1 else .bad
section
variable {X : Cx} {E : XK} {own own' ol vs : List Nat} {tg iter : Expr} {body : List Stmt} {it : GI} {T : TD} {b : GS} {t : TG} {pos : Pos} {K : PySem.W.Frag} {S0 S S' : List Addr} {F0 H0 F H F' H' : Hp} {ρ : PEnv} {R R' : Rs} {σ : L2.St}
theorem SIn.low {F1 : Hp} (s : SIn K S0 F0 H0 own ρ R σ S F H) (h01 : Same F0 F1) (h1 : Same F1 F) : SIn K S0 F1 H0 own ρ R σ S F H :=
  ⟨⟨s.ext.s, h1, s.ext.fh, s.ext.fr, s.ext.th, fun b u h n => s.ext.nw b u h (h01.free n), s.ext.sn⟩, s.cells, s.sh, s.ow, s.ap, s.len⟩
theorem Ext.up {F1 : Hp} (s : Ext S0 F1 H0 S F H) (h01 : Same F0 F1) (hn : ∀ b u, H0 b = some u → F0 b = none → F1 b = none) : Ext S0 F0 H0 S F H :=
  ⟨s.s, h01.trans s.f, s.fh, s.fr, s.th, fun b u h n => s.nw b u h (hn b u h n), s.sn⟩
theorem SIn.up {F1 : Hp} (s : SIn K S0 F1 H0 own ρ R σ S F H) (h01 : Same F0 F1) (hn : ∀ b u, H0 b = some u → F0 b = none → F1 b = none) : SIn K S0 F0 H0 own ρ R σ S F H :=
  ⟨s.ext.up h01 hn, s.cells, s.sh, s.ow, s.ap, s.len⟩
/-- the loop, from a state whose frozen part holds F1 -/
theorem for_core {Dn : Ends} {J : It} {ds : List D} {F1 : Hp} (hv : ∀ i ∈ vs, i ∉ own) (w : WalkD X.K F1 J ds) (hT : TgD X.K t T vs) (s : SIn X.K S0 F0 H0 own ρ R σ S F1 H) (h : WpS X.K E S0 F0 H0 own ol (loopG T b ds ρ R) Dn) :
    ∃ W : Nat → Nat → L2.St → Hp → Prop, (∃ m, W 0 m σ H) ∧ ∀ i m σ H, W i m σ H →
      (J.stop i H ∧ Dn.nx σ H) ∨ (J.go i H ∧ ∃ N : L2.St → Hp → Prop, (∀ σ' H', N σ' H' → ∃ m', m' < m ∧ W (i + 1) m' σ' H') ∧ ∀ x H', J.yld i H x H' → t x σ H' fun σ2 H2 => tS X.K E own own own b { Dn with nx := N, ct := N, bk := Dn.nx } σ2 H2) := by
  obtain ⟨Y, w, hy⟩ := w
  have s0 := s
  refine for_it w (fun i σ H => ∃ ρ R S F, SIn X.K S0 F0 H0 own ρ R σ S F H ∧ Same F1 F ∧ WpS X.K E S0 F0 H0 own ol (loopG T b (ds.drop i) ρ R) Dn) ⟨ρ, R, S, F1, s, .refl _, by rw [List.drop_zero]; exact h⟩
    (fun i σ H hi ⟨ρ, R, S, F, s, hf, _⟩ => hf.trans s.same) ?_ ?_
  · rintro i x σ H H2 hi ⟨ρ, R, S, F, s, hf, h⟩ y
    have hd : ds[i]? = some ds[i] := List.getElem?_eq_getElem hi
    obtain ⟨hH, F2, e2, r2⟩ := hy i ds[i] H x H2 F hd hf s.same y
    have s2 : SIn X.K S0 F0 H0 own ρ R σ S F2 H2 := s.on (e2 S) (s.cells.pure (e2 S) hH)
    rw [List.drop_eq_getElem_cons hi] at h
    unfold loopG at h
    cases q : T ds[i] ρ with
    | none => rw [q] at h; exact h.elim
    | some ρ1 =>
      rw [q] at h
      refine hT F2 H2 x ds[i] ρ σ σ ρ ρ1 _ s2.same r2 q .refl fun σ' u => ?_
      have h01 : Same F0 F1 := s0.ext.f
      have hn := s0.ext.nw
      refine ⟨S0, F1, H0, ρ1, R, ⟨S, F2, (u.sin hv s2).low h01 (hf.trans (e2 S).f)⟩, ?_⟩
      dsimp only at h
      have next : ∀ ρ2 R2, WpS X.K E S0 F0 H0 own ol (loopG T b (ds.drop (i + 1)) ρ2 R2) Dn → ∀ σ H, SRel X.K S0 F1 H0 own ρ2 R2 σ H → ∃ ρ R S F, SIn X.K S0 F0 H0 own ρ R σ S F H ∧ Same F1 F ∧ WpS X.K E S0 F0 H0 own ol (loopG T b (ds.drop (i + 1)) ρ R) Dn :=
        fun ρ2 R2 h σ H ⟨S, F, s⟩ => ⟨ρ2, R2, S, F, s.up h01 hn, s.ext.f, h⟩
      cases q2 : b ρ1 R with
      | nx ρ2 R2 => rw [q2] at h; exact next ρ2 R2 h
      | ct ρ2 R2 => rw [q2] at h; exact next ρ2 R2 h
      | bk ρ2 R2 => rw [q2] at h; exact fun σ H ⟨S, F, s⟩ => h σ H ⟨S, F, s.up h01 hn⟩
      | rt d R2 => rw [q2] at h; exact fun v S F H e c r => h v S F H (e.up h01 hn) c r
      | exc c fs R2 => rw [q2] at h; exact fun v S F H e c r => h v S F H (e.up h01 hn) c r
      | bad => rw [q2] at h; exact h
  · rintro σ H ⟨ρ, R, S, F, s, hf, h⟩
    rw [List.drop_length] at h
    exact h σ H ⟨S, F, s⟩
/-- for over a list, a tuple, .. that is frozen -/
theorem st_for (hp : PassesOwn (model X.prog X.w) X.A X.env X.xe) (hc : X.calm = true) (hi : EvI X E tg iter it) (hg : PG X tg t ∧ TgD X.K t T vs) (hb : Sts X E own own own body b)
    (hs : ∀ x, foldedSetIterable iter X.env x = pure x := by intro _; rfl) : Stm X E own own ol (.For tg iter body [] pos) (gFor .f own vs it T b) := ps_imp (ps_for hp hc hi hg.1 hb hs) fun Dn σ H ⟨S0, F0, H0, ρ, R, s, h⟩ => by
  refine see_wp rfl s h fun J ds R1 S F S1 F1 H1 s ef eg c r _ h1 => ?_
  split at h1
  · rename_i hc
    have hv : ∀ i ∈ vs, i ∉ own := by simpa using (Bool.and_eq_true_iff.mp hc).2
    exact for_core hv r hg.2 (s.on (ef rfl) c) h1
  · exact h1.elim
/-- for over a range -/
theorem st_forR (m : Md) (hp : PassesOwn (model X.prog X.w) X.A X.env X.xe) (hc : X.calm = true) (hi : EvIA X E tg iter it) (hg : PG X tg t ∧ TgD X.K t T vs) (hb : Sts X E own own own body b)
    (hs : ∀ x, foldedSetIterable iter X.env x = pure x := by intro _; rfl) : Stm X E own own ol (.For tg iter body [] pos) (gFor m own vs it T b) := ps_imp (ps_for hp hc hi hg.1 hb hs) fun Dn σ H ⟨S0, F0, H0, ρ, R, s, h⟩ => by
  refine see_wp rfl s h fun J ds R1 S F S1 F1 H1 s ef eg c r _ h1 => ?_
  split at h1
  · rename_i hc
    have hv : ∀ i ∈ vs, i ∉ own := by simpa using (Bool.and_eq_true_iff.mp hc).2
    obtain ⟨F2, s2, _⟩ := s.seenR ef eg c (Bool.and_eq_true_iff.mp hc).1
    exact for_core hv (r F2) hg.2 s2 h1
  · exact h1.elim
/-! ### while -/
def whlG (m : Md) (own : List Nat) (t : GT) (b : GS) : Nat → PEnv → Rs → Out
  | 0, _, _ => .bad
  | n + 1, ρ, R => (t (see m own ρ) R).out fun c R1 => if okR m R1 then match c with
    | false => .nx ρ R1
    | true => match b ρ R1 with
      | .nx ρ2 R2 => whlG m own t b n ρ2 R2
      | .ct ρ2 R2 => whlG m own t b n ρ2 R2
      | .bk ρ2 R2 => .nx ρ2 R2
      | o => o
    else .bad
def gWhl (fuel : PEnv → Rs → Nat) (m : Md) (own : List Nat) (t : GT) (b : GS) : GS := fun ρ R => whlG m own t b (fuel ρ R) ρ R
theorem st_while (fuel : PEnv → Rs → Nat) (m : Md) {c : Expr} {tc : GT} (hp : PassesOwn (model X.prog X.w) X.A X.env X.xe) (hc : EvT X E c tc) (hb : Sts X E own own own body b) : Stm X E own own ol (.While c body [] pos) (gWhl fuel m own tc b) := ps_imp (ps_while hp hc hb) fun Dn σ H ⟨S0, F0, H0, ρ, R, s, h⟩ => by
  refine ⟨fun n σ H => ∃ ρ R, SRel X.K S0 F0 H0 own ρ R σ H ∧ WpS X.K E S0 F0 H0 own ol (whlG m own tc b n ρ R) Dn, ⟨fuel ρ R, ρ, R, s, h⟩, ?_⟩
  rintro n σ H ⟨ρ, R, s, h⟩
  cases n with
  | zero => exact h.elim
  | succ n =>
    unfold whlG at h
    refine see_wp rfl s h fun v d R1 S F S1 F1 H1 s ef eg c r _ h1 => ?_
    subst r
    split at h1
    · rename_i hc
      obtain ⟨F2, s2, _⟩ := s.seenR ef eg c hc
      cases v with
      | false => exact h1 _ _ ⟨_, _, s2⟩
      | true =>
        refine ⟨fun σ H => ∃ ρ R, SRel X.K S0 F0 H0 own ρ R σ H ∧ WpS X.K E S0 F0 H0 own ol (whlG m own tc b n ρ R) Dn, fun σ H z => ⟨n, Nat.lt_succ_self n, z⟩, S0, F0, H0, ρ, R1, ⟨_, _, s2⟩, ?_⟩
        dsimp only at h1
        cases q2 : b ρ R1 with
        | nx ρ2 R2 => rw [q2] at h1; exact fun σ H s => ⟨ρ2, R2, s, h1⟩
        | ct ρ2 R2 => rw [q2] at h1; exact fun σ H s => ⟨ρ2, R2, s, h1⟩
        | bk ρ2 R2 => rw [q2] at h1; exact h1
        | rt d R2 => rw [q2] at h1; exact h1
        | exc c fs R2 => rw [q2] at h1; exact h1
        | bad => rw [q2] at h1; exact h1
    · exact h1.elim
end
end Pv

namespace Pv
open PySem PySem.Spec PyProof.Rows L2 Sr
/-! ### new cells -/
/-- the value is a new cell that nothing else holds -/
def Wf (K : PySem.W.Frag) (E : XK) (S : List Addr) (F H : Hp) (r : Res D) (Q : VK) : Prop := match r with
  | .ok d R' => ∀ p o S' F' H', Ext S F H S' F' H' → Cells K S' F' H' R' → H' p = some o → RepO K F' o d → F' p = none → H p = none → p ∉ S' → Q (.ref p) H'
  | .exc c fs R' => ∀ d S' F' H', Ext S F H S' F' H' → Cells K S' F' H' R' → ExcAt K S' F' H' fs d → E (.ref (He.ga K c)) d H'
  | .bad => False
def tF (K : PySem.W.Frag) (E : XK) (g : G) : TE := fun σ H Q => ∃ S F ρ R, View K S F H ρ R σ ∧ Wf K E S F H (g ρ R) Q
abbrev EvF (X : Cx) (E : XK) (e : Expr) (g : G) : Prop := PE X e (tF X.K E g)
section
variable {K : PySem.W.Frag} {E : XK} {S S1 : List Addr} {F H F1 H1 : Hp} {R : Rs} {ρ : PEnv} {σ : L2.St}
theorem Wf.ext {r : Res D} {Q : VK} (h : Wf K E S F H r Q) (e : Ext S F H S1 F1 H1) : Wf K E S1 F1 H1 r Q := by
  cases r with
  | ok a R' => exact fun p o S' F' H' e' c h1 h2 h3 h4 h5 => h p o S' F' H' (e.trans e') c h1 h2 h3 (by
      cases q : H p with
      | none => rfl
      | some u => obtain ⟨u', q'⟩ := e.th p u q; rw [h4] at q'; cases q') h5
  | exc c fs R' => exact fun d S' F' H' e' c r => h d S' F' H' (e.trans e') c r
  | bad => exact h
/-- frozen at once, it is plain data -/
theorem Ext.freeze (e : Ext S F H S1 F1 H1) {p : Addr} {o : HO} (hp : H1 p = some o) (hF : F1 p = none) (hn : H p = none) : Ext S F H S1 (upd F1 p o) H1 where
  s := e.s
  f := fun b u h => by rw [upd_ne (ne_of_none (e.f b u h) hF)]; exact e.f b u h
  fh := fun b u h => by
    by_cases hb : b = p
    · subst hb; rw [upd_same] at h; cases h; exact hp
    · rw [upd_ne hb] at h; exact e.fh b u h
  fr := e.fr
  th := e.th
  nw := fun b u h n => by rw [upd_ne (ne_of_none h hn)]; exact e.nw b u h n
  sn := e.sn
theorem Cells.freeze (c : Cells K S F H R) {p : Addr} {o : HO} (hF : F p = none) (hS : p ∉ S) : Cells K S (L2.upd F p o) H R :=
  c.froz (same_upd hF) fun b hb => by
    have hne : b ≠ p := fun z => hS (by rw [← z]; exact hb)
    rw [upd_ne hne]; exact (c.has hb).1
theorem Wp.toF {r : Res D} {Q : VK} (h : Wp K E (fun _ F v d => Rep K F v d) S F H r Q) : Wf K E S F H r Q := by
  cases r with
  | ok a R' => exact fun p o S' F' H' e c h1 h2 h3 h4 h5 => h _ S' _ H' (e.freeze h1 h3 h4) (c.freeze h3 h5) ((h2.mono (same_upd h3)).rep upd_same)
  | exc c fs R' => exact h
  | bad => exact h
theorem Wf.bind {α β : Type} {rep : List Addr → Hp → β → α → Prop} {r : Res α} {k : α → Rs → Res D} {Q : VK} {Q1 : β → Hp → Prop} (h : Wf K E S F H (r.bind k) Q)
    (hq : ∀ b S1 F1 H1 a R1, Ext S F H S1 F1 H1 → Cells K S1 F1 H1 R1 → rep S1 F1 b a → Wf K E S1 F1 H1 (k a R1) Q → Q1 b H1) : Wp K E rep S F H r Q1 := by
  cases r with
  | ok a R' => exact fun b S' F' H' e' c r => hq b S' F' H' a R' e' c r (Wf.ext h e')
  | exc c fs R' => exact h
  | bad => exact h
/-- a cell laid now -/
theorem Wf.new {d : D} {o : HO} {Q : VK} (h : Wf K E S F H (.ok d R) Q) (hs : Same F H) (c : Cells K S F H R) (r : RepO K F o d) {p : Addr} (hp : H p = none) : Q (.ref p) (upd H p o) :=
  h p o S F _ (.newO hs hp) (c.upd (c.fresh hp)) upd_same r (hs.free hp) hp (c.fresh hp)
end
section
variable {X : Cx} {E : XK} {a b c e : Expr} {es rest : List Expr} {ga gb gc g : G} {gs : GA} {pos : Pos}
theorem EvF.ev (h : EvF X E e g) : Ev X E e g := pe_imp h fun σ H Q ⟨S, F, ρ, R, v, h⟩ => ⟨S, F, ρ, R, v, h.toF⟩
theorem evf_lst (hs : EvA X E es gs) : EvF X E (.List es pos) (gLst gs) := pe_imp (pe_lst hs) fun σ H Q ⟨S, F, ρ, R, v, h⟩ => by
  refine ⟨S, F, ρ, R, v, Wf.bind h fun x S1 F1 H1 dx R1 e1 c1 rx h1 => ?_⟩
  unfold dLst at h1
  split at h1
  · rename_i hl
    exact ⟨by rw [rx.length]; exact hl, fun p hp => h1.new e1.fh c1 (.lst rx) hp⟩
  · exact h1.elim
/-- built-ins that lay a new cell -/
def CallF (K : PySem.W.Frag) (E : XK) (r : List V → Hp → VK → Prop) (f : List D → Rs → Res D) : Prop :=
  ∀ (S : List Addr) (F H : Hp) (R : Rs) (vs : List V) (ds : List D) (Q : VK), Same F H → Cells K S F H R → Reps K F vs ds → Wf K E S F H (f ds R) Q → r vs H Q
theorem tCB_ofF {K : PySem.W.Frag} {r : List V → Hp → VK → Prop} {f : List D → Rs → Res D} (hd : CallF K E r f) {σ : L2.St} {H : Hp} {Q : VK} (h : tF K E (gCB f gs) σ H Q) : tCB r (tPA K E gs) σ H Q := by
  obtain ⟨S, F, ρ, R, v, h⟩ := h
  exact ⟨S, F, ρ, R, v, Wf.bind h fun x S1 F1 H1 dx R1 e1 c1 rx h1 => hd S1 F1 H1 R1 x dx Q e1.fh c1 rx h1⟩
theorem evf_ty {id : String} {x : Str} {p : Pos} {r : List V → Hp → VK → Prop} {f : List D → Rs → Res D} (hc : CallR X (.type id) r ∧ CallF X.K E r f) (hg : Gl X x) (hm : X.mg x = none) (hv : bootBuiltins x = some (.type id)) (ha : EvA X E (e :: es) gs) (hn : x ≠ "__name__" := by decide) (hdb : (x == ("__debug__" : Str)) = false := by decide)
    (he : starEach (e :: es) X.env = (false, eval e X.env) :: starEach es X.env := by rfl) (hpl : (backTo pos (starEach es X.env)).any (·.1) = false := by rfl) :
    EvF X E (.Call (.Name x p) (e :: es) [] pos) (gCB f gs) := pe_imp (pe_callTy hc.1 hg hm hv ha hn hdb he hpl) fun _ _ _ => tCB_ofF hc.2
theorem evf_b {id : String} {x : Str} {p : Pos} {r : List V → Hp → VK → Prop} {f : List D → Rs → Res D} (hc : CallR X (.builtin id) r ∧ CallF X.K E r f) (hg : Gl X x) (hm : X.mg x = none) (hv : bootBuiltins x = some (.builtin id)) (ha : EvA X E (e :: es) gs) (hn : x ≠ "__name__" := by decide) (hdb : (x == ("__debug__" : Str)) = false := by decide)
    (he : starEach (e :: es) X.env = (false, eval e X.env) :: starEach es X.env := by rfl) (hpl : (backTo pos (starEach es X.env)).any (·.1) = false := by rfl) :
    EvF X E (.Call (.Name x p) (e :: es) [] pos) (gCB f gs) := pe_imp (pe_callB hc.1 hg hm hv ha hn hdb he hpl) fun _ _ _ => tCB_ofF hc.2
theorem cf_list : CallR X (.type "list") rListU ∧ CallF X.K E rListU dList := ⟨call_list_u, fun S F H R vs ds Q hs c r h => by
  unfold dList at h
  split at h
  · cases r with
    | cons r rn =>
    cases rn
    cases r with
    | lst hf rs => exact ⟨_, _, rfl, .inl (hs _ _ hf), fun p hp => h.new hs c (.lst rs) hp⟩
  · cases r with
    | cons r rn =>
    cases rn
    cases r with
    | tup hf rs => exact ⟨_, _, rfl, .inr (hs _ _ hf), fun p hp => h.new hs c (.lst rs) hp⟩
  · exact h.elim⟩
def dSlL : D → Option Int → Option Int → Rs → Res D := fun x lo hi R => match x with
  | .lst ds => .ok (.lst (cutD ds lo hi)) R
  | _ => .bad
def gSlL (g : G) (l h : GO) : G := fun ρ R => (g ρ R).bind fun x R1 => (l ρ R1).bind fun a R2 => (h ρ R2).bind fun b R3 => dSlL x a b R3
theorem evf_sl {lo hi : Option Expr} {l u : GO} {p2 : Pos} (h : Ev X E e g) (hl : EvO X E lo l) (hu : EvO X E hi u) : EvF X E (.Subscript e (.Slice lo hi none p2) pos) (gSlL g l u) := pe_imp (pe_slice sl_lu h hl hu) fun σ H Q ⟨S, F, ρ, R, v, h⟩ => by
  refine ⟨S, F, ρ, R, v, Wf.bind h fun x S1 F1 H1 dx R1 e1 c1 rx h1 => ?_⟩
  refine ⟨S1, F1, ρ, R1, v.ext e1 c1, Wf.bind h1 fun y S2 F2 H2 dy R2 e2 c2 ry h2 => ?_⟩
  refine ⟨S2, F2, ρ, R2, (v.ext e1 c1).ext e2 c2, Wf.bind h2 fun z S3 F3 H3 dz R3 e3 c3 rz h3 => ?_⟩
  subst ry rz
  replace rx := e3.rep (e2.rep rx)
  unfold dSlL at h3
  split at h3
  · cases rx with
    | lst hf rs => exact ⟨_, _, rfl, e3.fh _ _ hf, fun p hp => h3.new e3.fh c3 (.lst (cut_rep rs)) hp⟩
  · exact h3.elim
end
/-! ### [e for x in xs if t] -/
def lcG (T : TD) (tt : GT) (ge : G) : List D → PEnv → Rs → Res (List D)
  | [], _, R => .ok [] R
  | d :: ds, ρ, R => match T d ρ with
    | none => .bad
    | some ρ1 => (tt ρ1 R).bind fun b R1 => match b with
      | true => (ge ρ1 R1).bind fun y R2 => (lcG T tt ge ds ρ R2).bind fun ys R3 => .ok (y :: ys) R3
      | false => lcG T tt ge ds ρ R1
def Res.calm {α : Type} (r : Res α) : Res α := match r with
  | .exc _ _ _ => .bad
  | r => r
@[simp] theorem Res.calm_ok {α : Type} (a : α) (R : Rs) : (Res.ok a R).calm = .ok a R := rfl
@[simp] theorem Res.calm_bad {α : Type} : (Res.bad : Res α).calm = .bad := rfl
def wipeD (ρ : PEnv) : List Nat → PEnv
  | [] => ρ
  | v :: vs => (wipeD ρ vs).set v none
def gLc (vs : List Nat) (it : GI) (T : TD) (tt : GT) (ge : G) : G := fun ρ R => (it ρ R).bind fun ds R1 => ((lcG T tt ge ds (wipeD ρ vs) R1).calm).bind dLst
def gYes : GT := fun _ R => .ok true R
theorem wipe_view {K : PySem.W.Frag} {S : List Addr} {F H : Hp} {ρ : PEnv} {R : Rs} {σ : L2.St} (v : View K S F H ρ R σ) : ∀ vs : List Nat, View K S F H (wipeD ρ vs) R (wipe σ vs)
  | [] => v
  | w :: vs => by
    have ih := wipe_view v vs
    refine ⟨ih.fh, fun i d h => ?_, ih.cells, by show ((wipeD ρ vs).set w none).length = ((wipe σ vs).set w none).length; simpa using ih.len⟩
    have h : ((wipeD ρ vs).set w none)[i]? = some (some d) := h
    show ∃ u, ((wipe σ vs).set w none)[i]? = some (some u) ∧ _
    by_cases e : w = i
    · subst e
      rw [List.getElem?_set] at h
      simp at h
    · rw [List.getElem?_set_ne e] at h ⊢
      exact ih.env i d h
theorem wipe_in {σ : L2.St} {i : Nat} : ∀ {vs : List Nat}, i ∈ vs → (wipe σ vs)[i]? = if i < σ.length then some none else none
  | [], h => by simp at h
  | w :: ws, h => by
    show ((wipe σ ws).set w none)[i]? = _
    by_cases e : w = i
    · subst e
      rw [List.getElem?_set, wipe_length]
      simp
    · rw [List.getElem?_set_ne e]
      exact wipe_in (by
        rcases List.mem_cons.mp h with z | z
        · exact absurd z.symm e
        · exact z)
theorem wipe_wipe (σ : L2.St) (vs : List Nat) : wipe (wipe σ vs) vs = wipe σ vs := by
  apply List.ext_getElem?
  intro i
  by_cases h : i ∈ vs
  · rw [wipe_in h, wipe_in h, wipe_length]
  · rw [wipe_out h]
/-- the block of a comprehension, turn by turn -/
theorem tLc_of {K : PySem.W.Frag} {E : XK} {vs : List Nat} {it : GI} {T : TD} {t : TG} {tt : GT} {ge : G} {σ : L2.St} {H : Hp} {Q : VK} (hT : TgD K t T vs) (h : tF K E (gLc vs it T tt ge) σ H Q) :
    tLc (tG K E (fun _ F J ds => WalkD K F J ds) it) t (tPT K XF tt) (tP K XF ge) vs σ H Q := by
  obtain ⟨S, F, ρ, R, v, h⟩ := h
  refine ⟨S, F, ρ, R, v, Wf.bind h fun J S1 F1 H1 ds R1 e1 c1 rJ h1 => fun p hp => ?_⟩
  obtain ⟨Y, w, hy⟩ := rJ
  have v1 := v.ext e1 c1
  have hF1p : F1 p = none := e1.fh.free hp
  refine lc_it w (fun i H => ∃ S F R acc dacc, Ext S1 F1 H1 S F H ∧ Cells K S F H R ∧ H p = some (.lst acc) ∧ Reps K F acc dacc ∧ F p = none ∧ p ∉ S ∧
    ∃ ys R', lcG T tt ge (ds.drop i) (wipeD ρ vs) R = .ok ys R' ∧ (dacc ++ ys).length ≤ sizeLine ∧ Wf K E S1 F1 H1 (.ok (.lst (dacc ++ ys)) R') Q) ?_ ?_ ?_ ?_
  · refine ⟨S1, F1, R1, [], [], .newO e1.fh hp, c1.upd (c1.fresh hp), upd_same, .nil, hF1p, c1.fresh hp, ?_⟩
    rw [List.drop_zero]
    cases q : lcG T tt ge ds (wipeD ρ vs) R1 with
    | ok ys R' =>
      rw [q] at h1
      simp only [Res.calm_ok, Res.bind_ok] at h1
      unfold dLst at h1
      split at h1
      · rename_i hl
        exact ⟨ys, R', rfl, hl, h1⟩
      · exact h1.elim
    | exc c fs R' => rw [q] at h1; exact h1.elim
    | bad => rw [q] at h1; exact h1.elim
  · rintro i H hi ⟨S, F, R, acc, dacc, e, c, _⟩
    exact e.f.trans e.fh
  · rintro i x H H2 hi ⟨S, F, R, acc, dacc, e, c, hD, ra, hFp, hSp, ys, R', hg, hlen, hw⟩ y
    have hd : ds[i]? = some ds[i] := List.getElem?_eq_getElem hi
    obtain ⟨hH, F2, e2, r2⟩ := hy i ds[i] H x H2 F hd e.f e.fh y
    have c2 := c.pure (e2 S) hH
    have v2 : View K S F2 H2 (wipeD ρ vs) R (wipe σ vs) := wipe_view (v1.ext (e.trans (e2 S)) c2) vs
    have hD2 := hH _ _ hD
    have hF2 := (e2 S).nw p _ hD hFp
    rw [List.drop_eq_getElem_cons hi] at hg
    unfold lcG at hg
    cases q : T ds[i] (wipeD ρ vs) with
    | none => rw [q] at hg; cases hg
    | some ρ1 =>
      rw [q] at hg
      refine hT F2 H2 x ds[i] (wipeD ρ vs) (wipe σ vs) (wipe σ vs) (wipeD ρ vs) ρ1 _ (e2 S).fh r2 q .refl fun σ' u => ⟨?_, ?_⟩
      · rw [u.wipe, wipe_wipe]
      · dsimp only at hg
        have v3 := u.view v2
        refine ⟨S, F2, ρ1, R, v3, ?_⟩
        cases qt : tt ρ1 R with
        | ok b R3 =>
          rw [qt] at hg
          simp only [Res.bind_ok] at hg
          intro b' S3 F3 H3 e3 c3 hb
          subst hb
          have hD3 := e3.fr p _ hD2 hSp
          have hF3 := e3.nw p _ hD2 hF2
          have hS3 : p ∉ S3 := fun z => by have := e3.sn p z hSp; rw [hD2] at this; cases this
          cases b' with
          | true =>
            simp only [if_true]
            refine ⟨S3, F3, ρ1, R3, v3.ext e3 c3, ?_⟩
            dsimp only at hg
            cases qe : ge ρ1 R3 with
            | ok y R4 =>
              rw [qe] at hg
              simp only [Res.bind_ok] at hg
              intro yv S4 F4 H4 e4 c4 ry
              have hD4 := e4.fr p _ hD3 hS3
              have hF4 := e4.nw p _ hD3 hF3
              have hS4 : p ∉ S4 := fun z => by have := e4.sn p z hS3; rw [hD3] at this; cases this
              cases ql : lcG T tt ge (ds.drop (i + 1)) (wipeD ρ vs) R4 with
              | ok zs R5 =>
                rw [ql] at hg
                simp only [Res.bind_ok, Res.ok.injEq] at hg
                obtain ⟨rfl, rfl⟩ := hg
                have eAll := ((e.trans (e2 S)).trans e3).trans e4
                have hal : acc.length = dacc.length := ra.length
                refine ⟨acc, hD4, by rw [hal]; simp at hlen; omega, S4, F4, R4, acc ++ [yv], dacc ++ [y], ?_, c4.upd hS4, upd_same, ?_, hF4, hS4, zs, R5, ql, ?_, ?_⟩
                · exact ⟨eAll.s, eAll.f, fun b u h => by rw [upd_ne (ne_of_none h hF4)]; exact eAll.fh b u h, fun b u h hb => by rw [upd_ne (ne_of_none h hp)]; exact eAll.fr b u h hb, fun b u h => by rw [upd_ne (ne_of_none h hp)]; exact eAll.th b u h, eAll.nw, eAll.sn⟩
                · exact (ra.mono (((e2 S).f.trans e3.f).trans e4.f)).append (.cons ry .nil)
                · simpa using hlen
                · simpa using hw
              | exc c fs R5 => rw [ql] at hg; cases hg
              | bad => rw [ql] at hg; cases hg
            | exc c fs R4 => rw [qe] at hg; cases hg
            | bad => rw [qe] at hg; cases hg
          | false =>
            rw [if_neg (by decide)]
            exact ⟨S3, F3, R3, acc, dacc, (e.trans (e2 S)).trans e3, c3, hD3, ra.mono ((e2 S).f.trans e3.f), hF3, hS3, ys, R', hg, hlen, hw⟩
        | exc c fs R3 => rw [qt] at hg; cases hg
        | bad => rw [qt] at hg; cases hg
  · rintro H ⟨S, F, R, acc, dacc, e, c, hD, ra, hFp, hSp, ys, R', hg, hlen, hw⟩
    rw [List.drop_length] at hg
    cases hg
    rw [List.append_nil] at hw
    exact hw p _ S F H e c hD (.lst ra) hFp hp hSp
section
variable {X : Cx} {E : XK} {vs : List Nat} {it : GI} {T : TD} {t : TG} {tt : GT} {ge : G} {elt tg iter : Expr} {ifs : List Expr} {scope : Scope} {own : List (Str × Nat)} {pos : Pos}
theorem evf_lc (hv : own.map (·.2) = vs) (hc : X.calm = true) (hN : X.N.Nodup) (hi : EvI X E tg iter it) (ok : BlkOk X.N X.env.scope scope own)
    (hg : ∀ (s : Shared) (H : Hp) (C : Addr) (cl : List (Str × Addr)) (fp : List Addr), PG (X.blk s H scope (compEnvC scope cl C X.env) fp) tg t) (hT : TgD X.K t T vs) (ht : ∀ (s : Shared) (H : Hp) (C : Addr) (cl : List (Str × Addr)) (fp : List Addr), PTs (X.blk s H scope (compEnvC scope cl C X.env) fp) ifs (tPT X.K XF tt))
    (he : ∀ (s : Shared) (H : Hp) (C : Addr) (cl : List (Str × Addr)) (fp : List Addr), PE (X.blk s H scope (compEnvC scope cl C X.env) fp) elt (tP X.K XF ge)) (hs : ∀ x, foldedSetIterable iter X.env x = pure x := by intro _; rfl) :
    EvF X E (.ListComp elt [⟨tg, iter, ifs, 0⟩] scope pos) (gLc vs it T tt ge) := by
  subst hv
  exact pe_imp (pe_lc hc hN hi ok hg ht he hs) fun _ _ _ => tLc_of hT
theorem pts_of {X : Cx} {c : Expr} {E : XK} {t : GT} (h : EvT X E c t) : PTs X [c] (tPT X.K E t) := pts_one h
theorem pts_yes {X : Cx} {E : XK} {K : PySem.W.Frag} : PTs X [] (tPT K E gYes) := ⟨fun pins s σ H Q I ⟨S, F, ρ, R, v, h⟩ => pts_nil.run pins s σ H Q I (h.now v.fh v.cells rfl)⟩
end
end Pv

namespace Pv
open PySem PySem.Spec PyProof.Rows L2 Sr
/-! ### owned slots -/
def okO (m : Md) (d : D) (R : Rs) : Bool := match m with
  | .f => true
  | .g => immO d && R.all immO
section
variable {X : Cx} {E : XK} {own own' ol vs : List Nat} {e : Expr} {es : List Expr} {g : G} {gs : GA} {pos : Pos} {K : PySem.W.Frag} {S0 S S' : List Addr} {F0 H0 F H F' H' : Hp} {ρ : PEnv} {R R' : Rs} {σ : L2.St}
theorem SIn.extG (s : SIn K S0 F0 H0 own ρ R σ S F H) : Ext S0 F0 H0 S (allF own ρ σ F H) H := ⟨s.ext.s, s.ext.f.trans s.f_allF, s.allF_h, s.ext.fr, s.ext.th, fun b u h1 h2 => by
    have h3 := s.ext.nw b u h1 h2
    unfold allF
    split
    · rename_i ho
      have := (s.own_none ho).2.2.1
      rw [h1] at this; cases this
    · exact h3, s.ext.sn⟩
theorem see_wf {m : Md} {k : D → Rs → Out} {Dn : Ends} {Q : VK} (s : SRel X.K S0 F0 H0 own ρ R σ H) (h : WpS X.K E S0 F0 H0 own' ol ((g (see m own ρ) R).out k) Dn)
    (hq : ∀ p o d R1 S F S1 F1 H1, SIn X.K S0 F0 H0 own ρ R σ S F H → (m = .f → Ext S F H S1 F1 H1) → (m = .g → Ext S (allF own ρ σ F H) H S1 F1 H1) → Cells X.K S1 F1 H1 R1 → H1 p = some o → RepO X.K F1 o d → F1 p = none → H p = none → p ∉ S1 → WpS X.K E S0 F0 H0 own' ol (k d R1) Dn → Q (.ref p) H1) : tF X.K E g σ H Q := by
  obtain ⟨S, F, s⟩ := s
  cases m with
  | f =>
    refine ⟨S, F, hide own ρ, R, s.view, ?_⟩
    cases q : g (hide own ρ) R with
    | ok a R1 =>
      simp only [see, q] at h
      exact fun p o S1 F1 H1 e1 c1 h1 h2 h3 h4 h5 => hq p o a R1 S F S1 F1 H1 s (fun _ => e1) (fun z => nomatch z) c1 h1 h2 h3 h4 h5 h
    | exc c fs R1 =>
      simp only [see, q] at h
      exact fun d S1 F1 H1 e1 c1 rb => h d S1 F1 H1 (s.ext.trans e1) c1 rb
    | bad => simp only [see, q] at h; exact h
  | g =>
    refine ⟨S, _, ρ, R, s.full, ?_⟩
    cases q : g ρ R with
    | ok a R1 =>
      simp only [see, q] at h
      exact fun p o S1 F1 H1 e1 c1 h1 h2 h3 h4 h5 => hq p o a R1 S F S1 F1 H1 s (fun z => nomatch z) (fun _ => e1) c1 h1 h2 h3 h4 h5 h
    | exc c fs R1 =>
      simp only [see, q] at h
      exact fun d S1 F1 H1 e1 c1 rb => h d S1 F1 H1 (s.extG.trans e1) c1 rb
    | bad => simp only [see, q] at h; exact h
/-- x = a new cell, x owned -/
def gSetO (m : Md) (own : List Nat) (i : Nat) (g : G) : GS := fun ρ R => (g (see m own ρ) R).out fun d R1 => if okO m d R1 && own.contains i then .nx (ρ.set i (some d)) R1 else .bad
theorem SIn.newO {i : Nat} {p : Addr} {o : HO} {d : D} (s : SIn K S0 F0 H0 own ρ R σ S F H) (hb : ∀ u, H0 p ≠ some u) (hi : i ∈ own) (hp : H p = some o) (r : RepO K F o d) (hF : F p = none) (hS : p ∉ S) (hn : ∀ j ∈ own, ∀ d, ρ[j]? = some (some d) → σ[j]? ≠ some (some (.ref p))) :
    SIn K S0 F0 H0 own (ρ.set i (some d)) R (σ.set i (some (.ref p))) S F H :=
  s.setO hi hp r hF hS (by cases q : H0 p with | none => rfl | some u => exact absurd q (hb u)) fun j hj d h _ => hn j hj d h
theorem tSetO_of {m : Md} {i : Nat} {Dn : Ends} (h : tS X.K E own own ol (gSetO m own i g) Dn σ H) : tAsg (tF X.K E g) (gName i) Dn σ H := by
  obtain ⟨S0, F0, H0, ρ, R, s, h⟩ := h
  refine see_wf s h fun p o d R1 S F S1 F1 H1 s ef eg c hp r hF hn hS h1 => ?_
  have hb : ∀ u, H0 p ≠ some u := fun u q => by
    obtain ⟨u', q'⟩ := s.ext.th p u q
    rw [hn] at q'; cases q'
  have hno : ∀ j ∈ own, ∀ d, ρ[j]? = some (some d) → σ[j]? ≠ some (some (.ref p)) := fun j hj d h1 h2 => by
    obtain ⟨_, _, _, o, h3, _⟩ := s.own_none ⟨j, hj, d, h1, h2⟩
    rw [hn] at h3; cases h3
  split at h1
  · rename_i hc
    simp only [Bool.and_eq_true, List.contains_eq_mem, decide_eq_true_eq] at hc
    cases m with
    | f =>
      have s2 := s.on (ef rfl) c
      exact h1 _ _ ⟨_, _, s2.newO hb hc.2 hp r hF hS hno⟩
    | g =>
      have hm2 : immO d = true ∧ R1.all immO = true := by simpa [okO] using hc.1
      obtain ⟨s2, h2⟩ := s.onG (eg rfl) c hm2.2
      refine h1 _ _ ⟨_, _, s2.newO hb hc.2 hp (r.imm h2 hm2.1) ?_ hS hno⟩
      unfold cutF; split
      · rfl
      · exact hF
  · exact h1.elim
theorem st_setO (m : Md) {i : Nat} {x : Str} {pos' : Pos} (hN : X.N.Nodup) (hi : X.N[i]? = some x) (hx : Loc X.env.scope x) (he : EvF X E e g) (hs : swapsWith e (some (.Name x pos')) pos.line X.env = pure false := by rfl) (hf : X.fn x = true ∨ X.env.scope.names.lookup x = some .local := by first | exact .inl rfl | exact .inr rfl | assumption) :
    Stm X E own own ol (.Assign [.Name x pos'] e pos) (gSetO m own i g) := ps_imp (ps_set hN hi hx he hs hf) fun _ _ _ => tSetO_of
/-- x = [..], a comprehension -/
theorem st_setLc (m : Md) {it : GI} {T : TD} {t : TG} {tt : GT} {ge : G} {elt tg iter : Expr} {ifs : List Expr} {scope : Scope} {ow : List (Str × Nat)} {spos : Pos} {i : Nat} {y : Str} {py : Pos} (hv : ow.map (·.2) = vs) (hc : X.calm = true) (hN : X.N.Nodup) (hy : X.N[i]? = some y) (hyl : X.env.scope.names.lookup y = some .local)
    (hsw : swapsWith (.ListComp elt [⟨tg, iter, ifs, 0⟩] scope pos) (some (.Name y py)) spos.line X.env = pure true) (hi : EvI X E tg iter it) (ok : BlkOk X.N X.env.scope scope ow)
    (hg : ∀ (s : Shared) (H : Hp) (C : Addr) (cl : List (Str × Addr)) (fp : List Addr), PG (X.blk s H scope (compEnvC scope cl C X.env) fp) tg t) (hT : TgD X.K t T vs) (ht : ∀ (s : Shared) (H : Hp) (C : Addr) (cl : List (Str × Addr)) (fp : List Addr), PTs (X.blk s H scope (compEnvC scope cl C X.env) fp) ifs (tPT X.K XF tt))
    (he : ∀ (s : Shared) (H : Hp) (C : Addr) (cl : List (Str × Addr)) (fp : List Addr), PE (X.blk s H scope (compEnvC scope cl C X.env) fp) elt (tP X.K XF ge)) (hs : ∀ x, foldedSetIterable iter X.env x = pure x := by intro _; rfl) :
    Stm X E own own ol (.Assign [.Name y py] (.ListComp elt [⟨tg, iter, ifs, 0⟩] scope pos) spos) (gSet m own i (gLc vs it T tt ge)) ∧ Stm X E own own ol (.Assign [.Name y py] (.ListComp elt [⟨tg, iter, ifs, 0⟩] scope pos) spos) (gSetO m own i (gLc vs it T tt ge)) := by
  subst hv
  have q := ps_setLc (spos := spos) (i := i) (py := py) (pos := pos) hc hN hy hyl hsw hi ok hg ht he hs
  refine ⟨ps_imp q fun Dn σ H h => ?_, ps_imp q fun Dn σ H h => ?_⟩
  · have h2 := tSet_of h
    obtain ⟨S, F, ρ, R, v, h3⟩ := h2
    exact tLc_of hT ⟨S, F, ρ, R, v, h3.toF⟩
  · exact tLc_of hT (tSetO_of h)
/-- x.append(e), x owned -/
def gApp (m : Md) (own : List Nat) (i : Nat) (g : G) : GS := fun ρ R => match ρ[i]? with
  | some (some (.lst ds)) => (g (see m own ρ) R).out fun d R1 => if okM m d R1 && own.contains i && decide (ds.length < sizeLine) then .nx (ρ.set i (some (.lst (ds ++ [d])))) R1 else .bad
  | _ => .bad
theorem SRel.lstAt {i : Nat} {ds : List D} (s : SRel K S0 F0 H0 own ρ R σ H) (hi : i ∈ own) (h : ρ[i]? = some (some (.lst ds))) : ∃ a xs, σ[i]? = some (some (.ref a)) ∧ H a = some (.lst xs) ∧ xs.length = ds.length := by
  obtain ⟨S, F, s⟩ := s
  obtain ⟨v, h1, a, o, rfl, h3, h4, h5, h6, h7⟩ := s.ow i hi _ h
  cases h4 with
  | lst r => exact ⟨a, _, h1, h3, r.length⟩
theorem SIn.lstAt {i : Nat} {ds : List D} (s : SIn K S0 F0 H0 own ρ R σ S F H) (hi : i ∈ own) (h : ρ[i]? = some (some (.lst ds))) : ∃ a xs, σ[i]? = some (some (.ref a)) ∧ H a = some (.lst xs) ∧ Reps K F xs ds ∧ a ∉ S := by
  obtain ⟨v, h1, a, o, rfl, h3, h4, h5, h6, h7⟩ := s.ow i hi _ h
  cases h4 with
  | lst r => exact ⟨a, _, h1, h3, r, h6⟩
theorem Out.own_of {r : Res D} {f : D → Rs → Bool} {k : D → Rs → Out} {Dn : Ends} {i : Nat} (h : WpS K E S0 F0 H0 own' ol (r.out fun d R1 => if f d R1 && own.contains i then k d R1 else .bad) Dn) : i ∈ own ∨ ∀ d R1, r ≠ .ok d R1 := by
  by_cases hi : i ∈ own
  · exact .inl hi
  · refine .inr fun d R1 q => ?_
    rw [q] at h
    simp [hi] at h
    exact h
theorem st_app (m : Md) {i : Nat} (hio : i ∈ own) {o : Expr} {apos cpos : Pos} (ho : PE X o (tVar i)) (he : EvA X E [e] (gCons g gNil))
    (hbase : attributeBase o "append" X.env (eval o X.env) = eval o X.env := by rfl)
    (hfew : ((backTo cpos (starEach [e] X.env)).all (fun x => !x.1) && (backToKw cpos (keywordEach [] X.env)).all (fun x => x.1.isSome)
      && decide (([e] : List Expr).length + ([] : List Keyword).length + (if ([] : List Keyword).isEmpty then 0 else 1) < 30)) = true := by rfl)
    (hline : (apos.endLine == cpos.line) = true := by rfl) (hs : starEach [e] X.env = (false, eval e X.env) :: starEach [] X.env := by rfl) (hplain : (backTo cpos (starEach [] X.env)).any (·.1) = false := by rfl)
    (hsw : swapsWith (.Call (.Attribute o "append" apos) [e] [] cpos) none pos.line X.env = pure false := by rfl) :
    Stm X E own own ol (.Expr (.Call (.Attribute o "append" apos) [e] [] cpos) pos) (gApp m own i g) := ps_imp (ps_expr (pe_bmL PySem.F.slot_list_append PySem.F.type_list_append mt_append ho he hbase hfew hline hs hplain) hsw) fun Dn σ H ⟨S0, F0, H0, ρ, R, s, h⟩ => by
  unfold gApp at h
  split at h
  · rename_i ds hds
    obtain ⟨a, xs, hσ, hH, hl⟩ := s.lstAt hio hds
    refine ⟨_, hσ, ⟨a, xs, rfl, hH⟩, ?_⟩
    have h' : WpS X.K E S0 F0 H0 own ol (((gCons g gNil) (see m own ρ) R).out fun ds' R1 => match ds' with
        | [d] => if okM m d R1 && own.contains i && decide (ds.length < sizeLine) then .nx (ρ.set i (some (.lst (ds ++ [d])))) R1 else .bad
        | _ => .bad) Dn := by
      unfold gCons gNil
      cases q : g (see m own ρ) R with
      | ok d R1 => rw [q] at h; exact h
      | exc c fs R1 => rw [q] at h; exact h
      | bad => rw [q] at h; exact h
    refine see_wp rfl s h' fun us ds' R1 S F S1 F1 H1 s ef eg c r _ h1 => ?_
    split at h1
    · cases r with
      | cons r rr =>
      cases rr
      split at h1
      · rename_i hc
        simp only [Bool.and_eq_true, decide_eq_true_eq] at hc
        obtain ⟨F2, s2, r2⟩ := s.seen ef eg c r hc.1.1
        obtain ⟨b, ys, g1, g2, g3, g4⟩ := s2.lstAt hio hds
        have e1 := hσ.symm.trans g1
        cases e1
        refine ⟨_, ys, _, rfl, rfl, g2, by rw [g3.length]; exact hc.2, ?_⟩
        exact h1 _ _ ⟨_, _, s2.put hio hds g1 (.lst (g3.append (.cons r2 .nil)))⟩
      · exact h1.elim
    · exact h1.elim
  · exact h.elim
/-- x.extend(e), x owned, e a list -/
def gExt (m : Md) (own : List Nat) (i : Nat) (g : G) : GS := fun ρ R => match ρ[i]? with
  | some (some (.lst ds)) => (g (see m own ρ) R).out fun d R1 => match d with
    | .lst es => if okO m (.lst es) R1 && own.contains i && decide (ds.length + es.length ≤ sizeLine) then .nx (ρ.set i (some (.lst (ds ++ es)))) R1 else .bad
    | _ => .bad
  | _ => .bad
theorem st_ext (m : Md) {i : Nat} (hio : i ∈ own) {o : Expr} {apos cpos : Pos} (ho : PE X o (tVar i)) (he : EvA X E [e] (gCons g gNil))
    (hbase : attributeBase o "extend" X.env (eval o X.env) = eval o X.env := by rfl)
    (hfew : ((backTo cpos (starEach [e] X.env)).all (fun x => !x.1) && (backToKw cpos (keywordEach [] X.env)).all (fun x => x.1.isSome)
      && decide (([e] : List Expr).length + ([] : List Keyword).length + (if ([] : List Keyword).isEmpty then 0 else 1) < 30)) = true := by rfl)
    (hline : (apos.endLine == cpos.line) = true := by rfl) (hs : starEach [e] X.env = (false, eval e X.env) :: starEach [] X.env := by rfl) (hplain : (backTo cpos (starEach [] X.env)).any (·.1) = false := by rfl)
    (hsw : swapsWith (.Call (.Attribute o "extend" apos) [e] [] cpos) none pos.line X.env = pure false := by rfl) :
    Stm X E own own ol (.Expr (.Call (.Attribute o "extend" apos) [e] [] cpos) pos) (gExt m own i g) := ps_imp (ps_expr (pe_bmL PySem.F.slot_list_extend PySem.F.type_list_extend mt_extend ho he hbase hfew hline hs hplain) hsw) fun Dn σ H ⟨S0, F0, H0, ρ, R, s, h⟩ => by
  unfold gExt at h
  split at h
  · rename_i ds hds
    obtain ⟨a, xs, hσ, hH, hl⟩ := s.lstAt hio hds
    refine ⟨_, hσ, ⟨a, xs, rfl, hH⟩, ?_⟩
    have h' : WpS X.K E S0 F0 H0 own ol (((gCons g gNil) (see m own ρ) R).out fun ds' R1 => match ds' with
        | [.lst es] => if okO m (.lst es) R1 && own.contains i && decide (ds.length + es.length ≤ sizeLine) then .nx (ρ.set i (some (.lst (ds ++ es)))) R1 else .bad
        | _ => .bad) Dn := by
      unfold gCons gNil
      cases q : g (see m own ρ) R with
      | ok d R1 =>
        rw [q] at h
        cases d with
        | lst es => exact h
        | _ => exact h.elim
      | exc c fs R1 => rw [q] at h; exact h
      | bad => rw [q] at h; exact h
    refine see_wp rfl s h' fun us ds' R1 S F S1 F1 H1 s ef eg c r _ h1 => ?_
    split at h1
    · rename_i es0
      cases r with
      | cons r rr =>
      cases rr
      split at h1
      · rename_i hc
        simp only [Bool.and_eq_true, decide_eq_true_eq] at hc
        cases r with
        | @lst b0 vs0 _ hf rs =>
        have key : ∃ F2, SIn X.K S0 F0 H0 own ρ R1 σ S1 F2 H1 ∧ Reps X.K F2 vs0 es0 := by
          cases m with
          | f => exact ⟨F1, s.on (ef rfl) c, rs⟩
          | g =>
            have hm2 : immL es0 = true ∧ R1.all immO = true := by simpa [okO, immO] using hc.1.1
            obtain ⟨q1, q2⟩ := s.onG (eg rfl) c hm2.2
            exact ⟨_, q1, rs.imm q2 hm2.1⟩
        have hH1 : H1 b0 = some (.lst vs0) := (by
          cases m with
          | f => exact (ef rfl).fh _ _ hf
          | g => exact (eg rfl).fh _ _ hf)
        obtain ⟨F2, s2, r2⟩ := key
        obtain ⟨b, ys, g1, g2, g3, g4⟩ := s2.lstAt hio hds
        have e1 := hσ.symm.trans g1
        cases e1
        refine ⟨_, _, ys, _, rfl, rfl, g2, hH1, by rw [g3.length, rs.length]; exact hc.2, ?_⟩
        exact h1 _ _ ⟨_, _, s2.put hio hds g1 (.lst (g3.append r2))⟩
      · exact h1.elim
    · exact h1.elim
  · exact h.elim
/-- x.pop(), x owned -/
def gPop (own : List Nat) (i : Nat) : GS := fun ρ R => match ρ[i]? with
  | some (some (.lst (d :: ds))) => .nx (ρ.set i (some (.lst (d :: ds).dropLast))) R
  | _ => .bad
theorem Reps.dropLast : ∀ {vs : List V} {ds : List D}, Reps K F vs ds → Reps K F vs.dropLast ds.dropLast := fun {vs ds} r => by
  rw [List.dropLast_eq_take, List.dropLast_eq_take, r.length]
  exact r.take _
theorem st_pop {i : Nat} (hio : i ∈ own) {o : Expr} {apos cpos : Pos} (ho : PE X o (tVar i))
    (hbase : attributeBase o "pop" X.env (eval o X.env) = eval o X.env := by rfl) (hline : (apos.endLine == cpos.line) = true := by rfl)
    (hsw : swapsWith (.Call (.Attribute o "pop" apos) [] [] cpos) none pos.line X.env = pure false := by rfl) :
    Stm X E own own ol (.Expr (.Call (.Attribute o "pop" apos) [] [] cpos) pos) (gPop own i) := ps_imp (ps_expr (pe_bmL0 PySem.F.slot_list_pop PySem.F.type_list_pop mt_popG ho hbase hline) hsw) fun Dn σ H ⟨S0, F0, H0, ρ, R, s, h⟩ => by
  unfold gPop at h
  split at h
  · rename_i d ds hds
    obtain ⟨S, F, s⟩ := s
    obtain ⟨a, xs, hσ, hH, hr, hS⟩ := s.lstAt hio hds
    have hne : xs ≠ [] := fun z => by rw [z] at hr; cases hr
    refine ⟨_, hσ, ⟨a, xs, rfl, hH⟩, a, xs, xs.getLast hne, rfl, rfl, hH, List.getLast?_eq_some_getLast hne, ?_⟩
    exact h _ _ ⟨_, _, s.put hio hds hσ (.lst hr.dropLast)⟩
  · exact h.elim
/-! ### freezing -/
theorem sts_frz {own2 : List Nat} {sts : List Stmt} {g : GS} (hsub : ∀ i ∈ own2, i ∈ own) (h : Sts X E own2 own' ol sts g) : Sts X E own own' ol sts g := pss_imp h fun Dn σ H ⟨S0, F0, H0, ρ, R, ⟨S, F, s⟩, h⟩ => by
  refine ⟨S0, F0, H0, ρ, R, ?_, h⟩
  let fr := own.filter fun i => !own2.contains i
  have hfr : ∀ i, i ∈ fr ↔ i ∈ own ∧ i ∉ own2 := fun i => by simp [fr]
  have sub : ∀ b, OwnA fr ρ σ b → OwnA own ρ σ b := fun b ⟨i, hi, d, h1, h2⟩ => ⟨i, ((hfr i).mp hi).1, d, h1, h2⟩
  have hF : Same F (allF fr ρ σ F H) := fun b u e => by
    unfold allF
    split
    · rename_i h
      rw [(s.own_none (sub b h)).1] at e; cases e
    · exact e
  have hH : Same (allF fr ρ σ F H) H := fun b u e => by
    unfold allF at e
    split at e
    · exact e
    · exact s.same b u e
  refine ⟨S, allF fr ρ σ F H, ⟨s.ext.s, s.ext.f.trans hF, hH, s.ext.fr, s.ext.th, fun b u h1 h2 => ?_, s.ext.sn⟩, s.cells.froz hF fun b hb => ?_, fun i d h1 h2 => ?_, fun i hi d h1 => ?_, fun i hi j hj => s.ap i (hsub i hi) j (hsub j hj), s.len⟩
  · have h3 := s.ext.nw b u h1 h2
    unfold allF
    split
    · rename_i ho
      have := (s.own_none (sub b ho)).2.2.1
      rw [h1] at this; cases this
    · exact h3
  · unfold allF
    rw [if_neg fun z => (s.own_none (sub b z)).2.1 hb]
    exact (s.cells.has hb).1
  · by_cases hi : i ∈ own
    · obtain ⟨v, h3, a, o, rfl, h4, h5, h6, h7, h8⟩ := s.ow i hi d h1
      refine ⟨_, h3, .inl ((h5.mono hF).rep ?_)⟩
      unfold allF
      rw [if_pos ⟨i, (hfr i).mpr ⟨hi, h2⟩, d, h1, h3⟩]; exact h4
    · obtain ⟨v, h3, h4⟩ := s.sh i d h1 hi
      exact ⟨v, h3, h4.mono (List.prefix_refl _) hF⟩
  · obtain ⟨v, h3, a, o, rfl, h4, h5, h6, h7, h8⟩ := s.ow i (hsub i hi) d h1
    refine ⟨_, h3, a, o, rfl, h4, h5.mono hF, ?_, h7, h8⟩
    unfold allF
    rw [if_neg]
    · exact h6
    · rintro ⟨j, hj, d', q1, q2⟩
      have := s.ap i (hsub i hi) j ((hfr j).mp hj).1 d d' _ h1 q1 h3 q2
      subst this
      exact ((hfr i).mp hj).2 hi
end
end Pv

namespace Pv
open PySem PySem.Spec PyProof.Rows L2 Sr
/-! ### a, b = x, y -/
/-- values, those flagged being new cells -/
inductive Mix (K : PySem.W.Frag) (H : Hp) (S' : List Addr) (F' H' : Hp) : List Bool → List V → List D → Prop
  | nil : Mix K H S' F' H' [] [] []
  | old {fl : List Bool} {v : V} {d : D} {vs : List V} {ds : List D} : Rep K F' v d → Mix K H S' F' H' fl vs ds → Mix K H S' F' H' (false :: fl) (v :: vs) (d :: ds)
  | new {fl : List Bool} {p : Addr} {o : HO} {d : D} {vs : List V} {ds : List D} : H' p = some o → RepO K F' o d → F' p = none → H p = none → p ∉ S' → (∀ k : Nat, fl[k]? = some true → vs[k]? ≠ some (.ref p)) → Mix K H S' F' H' fl vs ds → Mix K H S' F' H' (true :: fl) (.ref p :: vs) (d :: ds)
def Wm (K : PySem.W.Frag) (E : XK) (fl : List Bool) (S : List Addr) (F H : Hp) (r : Res (List D)) (Q : List V → Hp → Prop) : Prop := match r with
  | .ok ds R' => ∀ vs S' F' H', Ext S F H S' F' H' → Cells K S' F' H' R' → Mix K H S' F' H' fl vs ds → Q vs H'
  | .exc c fs R' => ∀ d S' F' H', Ext S F H S' F' H' → Cells K S' F' H' R' → ExcAt K S' F' H' fs d → E (.ref (He.ga K c)) d H'
  | .bad => False
def tM (K : PySem.W.Frag) (E : XK) (fl : List Bool) (g : GA) : TA := fun σ H Q => ∃ S F ρ R, View K S F H ρ R σ ∧ Wm K E fl S F H (g ρ R) Q
abbrev EvM (X : Cx) (E : XK) (fl : List Bool) (es : List Expr) (g : GA) : Prop := PA X es (tM X.K E fl g)
section
variable {X : Cx} {E : XK} {fl : List Bool} {e : Expr} {es : List Expr} {g : G} {gs : GA} {K : PySem.W.Frag} {S S1 : List Addr} {F H F1 H1 : Hp} {σ : L2.St} {R : Rs}
theorem Mix.older {H0 : Hp} (h0 : ∀ p, H p = none → H0 p = none) : ∀ {fl : List Bool} {vs : List V} {ds : List D}, Mix K H S F1 H1 fl vs ds → Mix K H0 S F1 H1 fl vs ds
  | _, _, _, .nil => .nil
  | _, _, _, .old r m => .old r (Mix.older h0 m)
  | _, _, _, .new a b c d e f m => .new a b c (h0 _ d) e f (Mix.older h0 m)
theorem Ext.back (e : Ext S F H S1 F1 H1) {p : Addr} (h : H1 p = none) : H p = none := by
  cases q : H p with
  | none => rfl
  | some u => obtain ⟨u', h'⟩ := e.th p u q; rw [h] at h'; cases h'
theorem Wm.ext {r : Res (List D)} {Q : List V → Hp → Prop} (h : Wm K E fl S F H r Q) (e : Ext S F H S1 F1 H1) : Wm K E fl S1 F1 H1 r Q := by
  cases r with
  | ok a R' => exact fun b S' F' H' e' c r => h b S' F' H' (e.trans e') c (r.older fun p hp => e.back hp)
  | exc c fs R' => exact fun d S' F' H' e' c r => h d S' F' H' (e.trans e') c r
  | bad => exact h
theorem evm_nil : EvM X E [] [] gNil := pa_imp pa_nil fun σ H Q ⟨S, F, ρ, R, v, h⟩ => h [] S F H (.refl v.fh) v.cells .nil
theorem evm_old (h : Ev X E e g) (hs : EvM X E fl es gs) (h0 : starEach (e :: es) X.env = (false, eval e X.env) :: starEach es X.env := by rfl) : EvM X E (false :: fl) (e :: es) (gCons g gs) := pa_imp (pa_cons h hs h0) fun σ H Q ⟨S, F, ρ, R, v, h⟩ => by
  refine ⟨S, F, ρ, R, v, ?_⟩
  unfold gCons at h
  cases q : g ρ R with
  | ok d R1 =>
    rw [q] at h
    intro x S1 F1 H1 e1 c1 rx
    refine ⟨S1, F1, ρ, R1, v.ext e1 c1, ?_⟩
    have h : Wm X.K E (false :: fl) S F H ((gs ρ R1).bind fun xs R2 => .ok (d :: xs) R2) Q := h
    cases q2 : gs ρ R1 with
    | ok ds R2 =>
      rw [q2] at h
      exact fun vs S2 F2 H2 e2 c2 m => h (x :: vs) S2 F2 H2 (e1.trans e2) c2 (.old (e2.rep rx) (m.older fun p hp => e1.back hp))
    | exc c fs R2 => rw [q2] at h; exact fun d S' F' H' e' c r => h d S' F' H' (e1.trans e') c r
    | bad => rw [q2] at h; exact h
  | exc c fs R1 => rw [q] at h; exact h
  | bad => rw [q] at h; exact h
theorem Mix.neq {p : Addr} {o : HO} (hp : H p = some o) : ∀ {fl : List Bool} {vs : List V} {ds : List D}, Mix K H S F1 H1 fl vs ds → ∀ k : Nat, fl[k]? = some true → vs[k]? ≠ some (.ref p)
  | _, _, _, .nil, k, h => by simp at h
  | _, _, _, .old r m, 0, h => by simp at h
  | _, _, _, .old r m, k + 1, h => by simpa using Mix.neq hp m k (by simpa using h)
  | _, _, _, .new a b c d e f m, 0, h => by
    intro z
    simp at z
    rw [z, hp] at d; cases d
  | _, _, _, .new a b c d e f m, k + 1, h => by simpa using Mix.neq hp m k (by simpa using h)
theorem evm_new (h : EvF X E e g) (hs : EvM X E fl es gs) (h0 : starEach (e :: es) X.env = (false, eval e X.env) :: starEach es X.env := by rfl) : EvM X E (true :: fl) (e :: es) (gCons g gs) := pa_imp (pa_cons h hs h0) fun σ H Q ⟨S, F, ρ, R, v, h⟩ => by
  refine ⟨S, F, ρ, R, v, ?_⟩
  unfold gCons at h
  cases q : g ρ R with
  | ok d R1 =>
    rw [q] at h
    intro p o S1 F1 H1 e1 c1 h1 h2 h3 h4 h5
    refine ⟨S1, F1, ρ, R1, v.ext e1 c1, ?_⟩
    have h : Wm X.K E (true :: fl) S F H ((gs ρ R1).bind fun xs R2 => .ok (d :: xs) R2) Q := h
    cases q2 : gs ρ R1 with
    | ok ds R2 =>
      rw [q2] at h
      intro vs S2 F2 H2 e2 c2 m
      have hS2 : p ∉ S2 := fun z => by have := e2.sn p z h5; rw [h1] at this; cases this
      exact h (.ref p :: vs) S2 F2 H2 (e1.trans e2) c2 (.new (e2.fr p o h1 h5) (h2.mono e2.f) (e2.nw p o h1 h3) h4 hS2 (m.neq h1) (m.older fun p hp => e1.back hp))
    | exc c fs R2 => rw [q2] at h; exact fun d S' F' H' e' c r => h d S' F' H' (e1.trans e') c r
    | bad => rw [q2] at h; exact h
  | exc c fs R1 => rw [q] at h; exact h
  | bad => rw [q] at h; exact h
end
/-- the slots get the values; owned slots get the new cells -/
def setAll : List Nat → List D → PEnv → PEnv
  | i :: is, d :: ds, ρ => setAll is ds (ρ.set i (some d))
  | _, _, ρ => ρ
def setAllV : List Nat → List V → L2.St → L2.St
  | i :: is, d :: ds, σ => setAllV is ds (σ.set i (some d))
  | _, _, σ => σ
/-- the flags of slots: owned ones get new cells -/
def flOk (own : List Nat) : List Nat → List Bool → Bool
  | [], [] => true
  | i :: is, b :: fl => (b == own.contains i) && flOk own is fl
  | _, _ => false
def gPar (own is : List Nat) (fl : List Bool) (gs : GA) : GS := fun ρ R => (gs (hide own ρ) R).out fun ds R1 => if flOk own is fl && decide (is.Nodup) && decide (ds.length = is.length) then .nx (setAll is ds ρ) R1 else .bad
section
variable {X : Cx} {E : XK} {own own' ol : List Nat} {fl : List Bool} {e : Expr} {es : List Expr} {gs : GA} {K : PySem.W.Frag} {S0 S S1 : List Addr} {F0 H0 F H F1 H1 : Hp} {ρ : PEnv} {σ : L2.St} {R : Rs} {pos : Pos}
theorem SIn.setAll {Hb : Hp} (hb : ∀ p, Hb p = none → H0 p = none) : ∀ {is : List Nat} {fl : List Bool} {vs : List V} {ds : List D} {ρ : PEnv} {σ : L2.St}, flOk own is fl = true → is.Nodup → ds.length = is.length → Mix K Hb S F H fl vs ds →
    (∀ (j : Nat), j ∈ own → ∀ d, ρ[j]? = some (some d) → ∀ p, σ[j]? = some (some (.ref p)) → ∀ k : Nat, fl[k]? = some true → vs[k]? ≠ some (.ref p)) → SIn K S0 F0 H0 own ρ R σ S F H → SIn K S0 F0 H0 own (Pv.setAll is ds ρ) R (setAllV is vs σ) S F H
  | [], _, _, _, _, _, hf, hn, hl, m, hd, s => by
    cases m with
    | nil => exact s
    | _ => simp at hl
  | i :: is, _, _, _, ρ, σ, hf, hn, hl, m, hd, s => by
    obtain ⟨hn1, hn2⟩ := List.nodup_cons.mp hn
    cases m with
    | nil => simp at hl
    | old r m =>
      simp only [flOk, Bool.and_eq_true, beq_iff_eq] at hf
      have hi : i ∉ own := by have := hf.1; simpa using this.symm
      refine SIn.setAll (is := is) hb hf.2 hn2 (by simpa using hl) m (fun j hj d h p hp k hk => ?_) (s.set hi (.inl r))
      have hij : i ≠ j := fun z => hi (z ▸ hj)
      rw [List.getElem?_set_ne hij] at h hp
      have := hd j hj d h p hp (k + 1) (by simpa using hk)
      simpa using this
    | @new fl' p o d vs' ds' a1 a2 a3 a4 a5 a6 m =>
      simp only [flOk, Bool.and_eq_true, beq_iff_eq] at hf
      have hi : i ∈ own := by have := hf.1; simpa using this.symm
      have s2 := s.setO hi a1 a2 a3 a5 (hb p a4) fun j hj d' h hji hσ => by
        have := hd j hj d' h p hσ 0 (by simp)
        simp at this
      refine SIn.setAll (is := is) hb hf.2 hn2 (by simpa using hl) m (fun j hj d' h q hq k hk => ?_) s2
      by_cases hij : i = j
      · subst hij
        rw [List.getElem?_set] at hq
        simp only [if_true] at hq
        split at hq
        · cases hq
          exact a6 k hk
        · cases hq
      · rw [List.getElem?_set_ne hij] at h hq
        have := hd j hj d' h q hq (k + 1) (by simpa using hk)
        simpa using this
theorem par_core {is : List Nat} {Dn : Ends} {Q : List V → Hp → Prop} (h : tS X.K E own own ol (gPar own is fl gs) Dn σ H) (hq : ∀ vs H1, vs.length = is.length → Dn.nx (setAllV is vs σ) H1 → Q vs H1) : tM X.K E fl gs σ H Q := by
  obtain ⟨S0, F0, H0, ρ, R, ⟨S, F, s⟩, h⟩ := h
  refine ⟨S, F, hide own ρ, R, s.view, ?_⟩
  unfold gPar at h
  cases q : gs (hide own ρ) R with
  | ok ds R1 =>
    rw [q] at h
    simp only [Res.out_ok] at h
    split at h
    · rename_i hc
      simp only [Bool.and_eq_true, decide_eq_true_eq] at hc
      intro vs S1 F1 H1 e1 c1 m
      have s1 := s.on e1 c1
      have hlen : ∀ {fl : List Bool} {vs : List V} {ds : List D}, Mix X.K H S1 F1 H1 fl vs ds → vs.length = ds.length := by
        intro fl vs ds m
        induction m with
        | nil => rfl
        | old _ _ ih => simp [ih]
        | new _ _ _ _ _ _ _ ih => simp [ih]
      refine hq vs H1 ((hlen m).trans hc.2) (h _ _ ⟨_, _, SIn.setAll (Hb := H) (fun p hp => s.ext.back hp) hc.1.1 hc.1.2 hc.2 m (fun j hj d h1 p hp k hk => ?_) s1⟩)
      obtain ⟨_, _, _, o, h3, _⟩ := s.own_none ⟨j, hj, d, h1, hp⟩
      exact m.neq h3 k hk
    · exact h.elim
  | exc c fs R1 => rw [q] at h; exact fun d S1 F1 H1 e1 c1 rb => h d S1 F1 H1 (s.ext.trans e1) c1 rb
  | bad => rw [q] at h; exact h
theorem st_par {i j : Nat} {x y : Str} {a b : Expr} {px py pt : Pos} {kt k2 pt2} (hc : X.calm = true) (hN : X.N.Nodup) (hi : X.N[i]? = some x) (hj : X.N[j]? = some y) (hij : i ≠ j)
    (hx : X.env.scope.names.lookup x = some .local) (hy : X.env.scope.names.lookup y = some .local) (ha : EvM X E fl [a, b] gs)
    (hw : swappedStores [.Tuple [.Name x px, .Name y py] kt pt] (.Tuple [a, b] k2 pt2) X.env = pure (some [x, y]))
    (hs : swapsWithSole [.Tuple [.Name x px, .Name y py] kt pt] (.Tuple [a, b] k2 pt2) pos.line X.env = pure false := by rfl) :
    Stm X E own own ol (.Assign [.Tuple [.Name x px, .Name y py] kt pt] (.Tuple [a, b] k2 pt2) pos) (gPar own [i, j] fl gs) := ps_imp (ps_par hc hN hi hj hij hx hy ha hw hs) fun Dn σ H h =>
  par_core h fun vs H1 hl hn => match vs, hl, hn with
    | [v, w], _, hn => ⟨v, w, rfl, hn⟩
theorem st_par3 {i j l : Nat} {x y z : Str} {a b c : Expr} {px py pz pt : Pos} {kt k2 pt2} (hc : X.calm = true) (hN : X.N.Nodup) (hi : X.N[i]? = some x) (hj : X.N[j]? = some y) (hl : X.N[l]? = some z) (hij : i ≠ j) (hil : i ≠ l) (hjl : j ≠ l)
    (hx : X.env.scope.names.lookup x = some .local) (hy : X.env.scope.names.lookup y = some .local) (hz : X.env.scope.names.lookup z = some .local) (ha : EvM X E fl [a, b, c] gs)
    (hw : swappedStores [.Tuple [.Name x px, .Name y py, .Name z pz] kt pt] (.Tuple [a, b, c] k2 pt2) X.env = pure (some [x, y, z]))
    (hs : swapsWithSole [.Tuple [.Name x px, .Name y py, .Name z pz] kt pt] (.Tuple [a, b, c] k2 pt2) pos.line X.env = pure false := by rfl) :
    Stm X E own own ol (.Assign [.Tuple [.Name x px, .Name y py, .Name z pz] kt pt] (.Tuple [a, b, c] k2 pt2) pos) (gPar own [i, j, l] fl gs) := ps_imp (ps_par3 hc hN hi hj hl hij hil hjl hx hy hz ha hw hs) fun Dn σ H h =>
  par_core h fun vs H1 hl hn => match vs, hl, hn with
    | [v, w, u], _, hn => ⟨v, w, u, rfl, hn⟩
/-- targets = e, by a tuple or a list that is made first -/
def gAsg (m : Md) (own vs : List Nat) (T : TD) (g : G) : GS := fun ρ R => (g (see m own ρ) R).out fun d R1 => if okM m d R1 && vs.all (fun i => !own.contains i) then match T d ρ with
  | some ρ1 => .nx ρ1 R1
  | none => .bad
  else .bad
theorem st_asg (m : Md) {tg : Expr} {g : G} {t : TG} {T : TD} {vs : List Nat} (he : Ev X E e g) (hg : PG X tg t ∧ TgD X.K t T vs) (hs : swapsWithSole [tg] e pos.line X.env = pure false := by rfl) (hw : swappedStores [tg] e X.env = pure none := by rfl) (h1 : (assignEach [tg] X.env).map (·.2) = [assign tg X.env] := by rfl) : Stm X E own own ol (.Assign [tg] e pos) (gAsg m own vs T g) := ps_imp (ps_asg he hg.1 hs hw h1) fun Dn σ H ⟨S0, F0, H0, ρ, R, s, h⟩ => by
  refine see_wp rfl s h fun v d R1 S F S1 F1 H1 s ef eg c r _ h1 => ?_
  split at h1
  · rename_i hc
    have hv : ∀ i ∈ vs, i ∉ own := by simpa using (Bool.and_eq_true_iff.mp hc).2
    obtain ⟨F2, s2, r2⟩ := s.seen ef eg c r (Bool.and_eq_true_iff.mp hc).1
    split at h1
    · rename_i ρ1 q
      exact hg.2 F2 H1 v d ρ σ σ ρ ρ1 _ s2.same r2 q .refl fun σ' u => h1 _ _ ⟨_, _, u.sin hv s2⟩
    · exact h1.elim
  · exact h1.elim
end
end Pv

namespace Pv
open PySem PySem.Spec PyProof.Rows L2 Sr
/-! ### x += e -/
section
variable {X : Cx} {E : XK} {own ol : List Nat} {e : Expr} {g : G} {pos pos' : Pos}
theorem st_augA (m : Md) {i : Nat} {x : Str} (hN : X.N.Nodup) (hi : X.N[i]? = some x) (hx : Loc X.env.scope x) (he : Ev X E e g) (hf : X.fn x = true ∨ X.env.scope.names.lookup x = some .local := by first | exact .inl rfl | exact .inr rfl | assumption) :
    Stm X E own own ol (.AugAssign (.Name x pos') .Add e pos) (gAug m own i dAdd g) := ps_imp (ps_aug hN hi hx he ip_add hf) fun _ _ _ => gAug_wp
theorem st_augS (m : Md) {i : Nat} {x : Str} (hN : X.N.Nodup) (hi : X.N[i]? = some x) (hx : Loc X.env.scope x) (he : Ev X E e g) (hf : X.fn x = true ∨ X.env.scope.names.lookup x = some .local := by first | exact .inl rfl | exact .inr rfl | assumption) :
    Stm X E own own ol (.AugAssign (.Name x pos') .Sub e pos) (gAug m own i dSub g) := ps_imp (ps_aug hN hi hx he ip_sub hf) fun _ _ _ => gAug_wp
theorem pass_x (hs : X.stack = X.env :: X.outer) (hf : X.env.frame = some X.env.locals) (hex : X.ex = []) {E1 : Value → Shared → Prop}
    (hx : X.xe = fun e s' => wpAny (model X.prog X.w) X.A (leaving X.env e) (fun _ s'' => L2.CX X.prog X.w X.outer X.H_0 X.s_0 E e s'') E1 s') : Passes (L2.CX X.prog X.w) X E := passes_call (takes_of hs hf hex hx) fun _ _ _ _ h => h
end
/-! ### defs -/
def out1 : Out → Res D
  | .nx _ R => .ok .non R
  | .rt d R => .ok d R
  | .exc c fs R => .exc c fs R
  | _ => .bad
def startD (n : Nat) (ds : List D) : PEnv := ds.map some ++ List.replicate (n - ds.length) none
/-- a def's meaning -/
def runB (n : Nat) (g : GS) : List D → Rs → Res D := fun ds R => out1 (g (startD n ds) R)
section
variable {K : PySem.W.Frag} {S : List Addr} {F H : Hp} {R : Rs} {E : XK} {Q : VK}
theorem startD_get {n : Nat} {ds : List D} {vs : List V} {N : List Str} (hN : N.length = n) (r : Reps K F vs ds) {i : Nat} {d : D} (h : (startD n ds)[i]? = some (some d)) : i < ds.length ∧ ∃ v, (L2.start N vs)[i]? = some (some v) ∧ Rep K F v d := by
  unfold startD at h
  unfold L2.start
  by_cases hi : i < ds.length
  · rw [List.getElem?_append_left (by simpa using hi), List.getElem?_map] at h
    cases q : ds[i]? with
    | none => rw [q] at h; cases h
    | some d' =>
      rw [q] at h
      cases h
      obtain ⟨v, h1, h2⟩ := r.get q
      exact ⟨hi, v, by rw [List.getElem?_append_left (by simpa [r.length] using hi), List.getElem?_map, h1]; rfl, h2⟩
  · rw [List.getElem?_append_right (by simpa using hi)] at h
    have := List.mem_of_getElem? h
    simp at this
theorem sin_start {n : Nat} {ds : List D} {vs : List V} {N : List Str} {own : List Nat} (hN : N.length = n) (ho : ∀ i ∈ own, ds.length ≤ i) (hs : Same F H) (c : Cells K S F H R) (r : Reps K F vs ds) : SIn K S F H own (startD n ds) R (L2.start N vs) S F H :=
  ⟨.refl hs, c, fun i d h _ => by
    obtain ⟨_, v, h1, h2⟩ := startD_get hN r h
    exact ⟨v, h1, .inl h2⟩, fun i hi d h => by
    have := (startD_get hN r h).1
    have := ho i hi
    omega, fun i hi j hj d d' v h1 => by
    have := (startD_get hN r h1).1
    have := ho i hi
    omega, by unfold startD L2.start; simp [r.length, hN]⟩
theorem body_wp {g : GS} {own' ol : List Nat} {ρ : PEnv} (h : Wp K E (fun _ F v d => Rep K F v d) S F H (out1 (g ρ R)) Q) : WpS K E S F H own' ol (g ρ R) { nx := fun _ H' => Q .non H', rt := Q } := by
  cases q : g ρ R with
  | nx ρ' R' => rw [q] at h; exact fun σ H ⟨S1, F1, s⟩ => h _ S1 F1 H s.ext s.cells .non
  | rt d R' => rw [q] at h; exact h
  | exc c fs R' => rw [q] at h; exact h
  | bk ρ' R' => rw [q] at h; exact h.elim
  | ct ρ' R' => rw [q] at h; exact h.elim
  | bad => rw [q] at h; exact h.elim
end
section
variable {fa : List He.Fa} {fn : List He.DefD} {gt : List PropD} {ex : PySem.W.Frag → Bool} {K : PySem.W.Frag} {mg : Str → Option Value} {P : Program} {w : World} {base : Heap}
/-- the body of a def, read in its context -/
def BodyP (P : Program) (w : World) (K : PySem.W.Frag) (mg : Str → Option Value) (base : Heap) (k : Nat) (N : List Str) (q : Str) (st : Stmt) (own own' : List Nat) (g : GS) : Prop :=
  ∀ (f : Addr) (cdv : Value) (A : Around) (outer : List Env) (s : Shared) (H : Hp) (E : XK), Room k (A.deeper (envOfC q (defScope st) s.heap.objs.size f cdv)) → Sts (cxOf (L2.CX P w) P w K mg base N q (defScope st) f cdv A outer s H E) E own own' [] (defBody st) g
theorem BodyP.ok {k n : Nat} {N ps : List Str} {q : Str} {st : Stmt} {own own' : List Nat} {g : GS} (B : BodyP P w K mg base k N q st own own' g) (hn : N.length = n) (ho : ∀ i ∈ own, ps.length ≤ i) {f : Addr} {cdv : Value} {A : Around} {outer : List Env} {s : Shared} {H : Hp} {vs : List V} {Q : VK} {E : XK}
    (hr : Room k (A.deeper (envOfC q (defScope st) s.heap.objs.size f cdv))) (h : spP K ps.length (runB n g) vs H Q E) :
    ∃ t, PSs (cxOf (L2.CX P w) P w K mg base N q (defScope st) f cdv A outer s H E) (defBody st) t ∧ t { nx := fun _ H' => Q .non H', rt := Q } (L2.start N vs) H := by
  obtain ⟨S, F, R, ds, hs, c, r, hl, h⟩ := h
  exact ⟨_, B f cdv A outer s H E hr, S, F, H, _, R, ⟨S, F, sin_start hn (fun i hi => by rw [hl]; exact ho i hi) hs c r⟩, body_wp h⟩
theorem fnP {N ps : List Str} {k n : Nat} {x : Str} {own own' : List Nat} {g : GS} (st : Stmt) (S : Say fa fn gt ex K mg) (i j : Nat) (hd : fn[i]? = some ⟨(x, none), x, x, defArgs st, defBody st, defScope st, [], []⟩) (hg : fa[j]? = some (.glo x)) (SC : FnScope N ps (defScope st))
    (hb : ∀ (kV doc pm : Value) (an : Option Addr) (cdv ct : Value) (us : List Value), us.length = ps.length → bindArgs (PySem.W.fnOf x x (defArgs st) (defBody st) (defScope st) .none kV doc pm an cdv ct) ⟨us, []⟩ = pure (ps.zip us))
    (hn : N.length = n) (ho : ∀ i ∈ own, ps.length ≤ i) (B : BodyP P w K mg base k N x st own own' g) : Fn P w K mg base (L2.CX P w) (k + 1) x ps (spP K ps.length (runB n g)) := by
  obtain ⟨fd, F⟩ := S.c.def_ i hd
  exact ⟨_, fd, S.glo j hg, F.kp, F.bindsN hb, F.ok SC spP_len fun cdv A outer s H vs Q E hr h => B.ok hn ho hr h, F.at_⟩
theorem meP {N ps : List Str} {k n : Nat} {c m q : Str} {own own' : List Nat} {g : GS} (st : Stmt) (S : Say fa fn gt ex K mg) (i j : Nat) (hd : fn[i]? = some ⟨(c, some m), m, q, defArgs st, defBody st, defScope st, [], []⟩) (hg : fa[j]? = some (.meth c m)) (SC : FnScope N ps (defScope st))
    (hb : ∀ (kV doc pm : Value) (an : Option Addr) (cdv ct : Value) (us : List Value), us.length = ps.length → bindArgs (PySem.W.fnOf m q (defArgs st) (defBody st) (defScope st) .none kV doc pm an cdv ct) ⟨us, []⟩ = pure (ps.zip us))
    (hn : N.length = n) (ho : ∀ i ∈ own, ps.length ≤ i) (B : BodyP P w K mg base k N q st own own' g) : MeB P w K mg base (L2.CX P w) (k + 1) (He.ga K c) m ps (spP K ps.length (runB n g)) := by
  obtain ⟨fd, F⟩ := S.c.def_ i hd
  have M := He.meth_ok (S.c.fact j hg)
  exact ⟨_, fd, M.at_, M.fn, M.kp, F.bindsN hb, F.ok SC spP_len fun cdv A outer s H vs Q E hr h => B.ok hn ho hr h⟩
theorem prP {N ps : List Str} {k n : Nat} {c f q : Str} {own own' : List Nat} {g : GS} (st : Stmt) (S : Say fa fn gt ex K mg) (i : Nat) (hd : gt[i]? = some ⟨c, f, q, defArgs st, defBody st, defScope st⟩) (SC : FnScope N ps (defScope st))
    (hb : ∀ (kV doc pm : Value) (an : Option Addr) (cdv ct : Value) (us : List Value), us.length = ps.length → bindArgs (PySem.W.fnOf f q (defArgs st) (defBody st) (defScope st) .none kV doc pm an cdv ct) ⟨us, []⟩ = pure (ps.zip us))
    (hn : N.length = n) (ho : ∀ i ∈ own, ps.length ≤ i) (B : BodyP P w K mg base k N q st own own' g) : PrB P w K mg base (L2.CX P w) (k + 1) (He.ga K c) f ps (spP K ps.length (runB n g)) := by
  obtain ⟨h1, fd, F⟩ := S.prop i hd
  exact ⟨_, _, fd, h1, F.bindsN hb, F.ok SC spP_len fun cdv A outer s H vs Q E hr h => B.ok hn ho hr h⟩
/-! a promise by an equal function -/
theorem spP_eq {n : Nat} {f f' : List D → Rs → Res D} (h : ∀ ds R, ds.length = n → f' ds R ≠ .bad → f' ds R = f ds R) (vs : List V) (H : Hp) (Q : VK) (E : XK) (q : spP K n f' vs H Q E) : spP K n f vs H Q E := by
  obtain ⟨S, F, R, ds, hs, c, r, hl, q⟩ := q
  refine ⟨S, F, R, ds, hs, c, r, hl, ?_⟩
  by_cases hb : f' ds R = .bad
  · rw [hb] at q; exact q.elim
  · rw [← h ds R hl hb]; exact q
theorem _root_.Sr.Fn.to {x : Str} {ps : List Str} {k n : Nat} {CX : CXT} {f f' : List D → Rs → Res D} (F : Fn P w K mg base CX k x ps (spP K n f)) (h : ∀ ds R, ds.length = n → f' ds R ≠ .bad → f' ds R = f ds R) : Fn P w K mg base CX k x ps (spP K n f') := F.imp (spP_eq h)
theorem _root_.Sr.MeB.imp {C : Addr} {m : Str} {ps : List Str} {k : Nat} {CX : CXT} {sp sp' : Sp} (F : MeB P w K mg base CX k C m ps sp) (h : ∀ vs H Q E, sp' vs H Q E → sp vs H Q E) : MeB P w K mg base CX k C m ps sp' := by
  obtain ⟨f, fd, a, b, c, d, e⟩ := F.ex
  exact ⟨f, fd, a, b, c, d, e.imp h⟩
theorem _root_.Sr.MeB.to {C : Addr} {m : Str} {ps : List Str} {k n : Nat} {CX : CXT} {f f' : List D → Rs → Res D} (F : MeB P w K mg base CX k C m ps (spP K n f)) (h : ∀ ds R, ds.length = n → f' ds R ≠ .bad → f' ds R = f ds R) : MeB P w K mg base CX k C m ps (spP K n f') := F.imp (spP_eq h)
theorem _root_.Sr.PrB.to {C : Addr} {m : Str} {ps : List Str} {k n : Nat} {CX : CXT} {f f' : List D → Rs → Res D} (F : PrB P w K mg base CX k C m ps (spP K n f)) (h : ∀ ds R, ds.length = n → f' ds R ≠ .bad → f' ds R = f ds R) : PrB P w K mg base CX k C m ps (spP K n f') := by
  obtain ⟨p, g, fd, a, b, c⟩ := F.ex
  exact ⟨p, g, fd, a, b, c.imp (spP_eq h)⟩
theorem _root_.Sr.Fn.cx0 {x : Str} {ps : List Str} {k : Nat} {CX : CXT} {sp : Sp} (F : Fn P w K mg base CX0 k x ps sp) : Fn P w K mg base CX k x ps sp := by
  obtain ⟨f, fd, a, b, c, d, e⟩ := F.ex
  refine ⟨f, fd, a, b, c, ⟨d.len, fun A outer s H args us vs Q E hr he hb hv hs => codeAny_mono (d.run A outer s H args us vs Q E hr he hb hv hs) fun r s' h => ?_⟩, e⟩
  cases r with
  | error e => exact h.elim
  | ok fl => cases fl <;> exact h
end
end Pv

namespace Pv
open PySem PySem.Spec PyProof.Rows L2 Sr
/-! ### instances -/
def gFld (c f : Str) (g : G) : G := fun ρ R => (g ρ R).bind fun d R1 => match d with
  | .ins c' fs => if c' = c then match fs.lookup f with
    | some v => .ok v R1
    | none => .bad
    else .bad
  | _ => .bad
theorem lookup_rep {K : PySem.W.Frag} {F : Hp} {f : Str} {v : D} : ∀ {fs : List (Str × V)} {gs : List (Str × D)}, fs.map (·.1) = gs.map (·.1) → Reps K F (fs.map (·.2)) (gs.map (·.2)) → gs.lookup f = some v → ∃ u, fs.lookup f = some u ∧ Rep K F u v
  | [], [], _, _, h => by cases h
  | [], _ :: _, e, _, _ => by cases e
  | _ :: _, [], e, _, _ => by cases e
  | (a, x) :: fs, (b, y) :: gs, e, r, h => by
    simp only [List.map_cons, List.cons.injEq] at e
    obtain ⟨rfl, e⟩ := e
    cases r with
    | cons r rr =>
    by_cases hf : f = a
    · subst hf
      simp at h
      subst h
      exact ⟨x, by simp, r⟩
    · have hb : (f == a) = false := by simpa using hf
      simp only [List.lookup, hb] at h ⊢
      exact lookup_rep e rr h
theorem Wp.noexc {α β : Type} {K : PySem.W.Frag} {E E' : XK} {rep : List Addr → Hp → β → α → Prop} {S : List Addr} {F H : Hp} {r : Res α} {Q : β → Hp → Prop} (h : Wp K E rep S F H r Q) (hn : ∀ c fs R, r ≠ .exc c fs R) : Wp K E' rep S F H r Q := by
  cases r with
  | ok a R => exact h
  | exc c fs R => exact absurd rfl (hn c fs R)
  | bad => exact h
/-- a method's, a property's call -/
def gProp (c : Str) (f : List D → Rs → Res D) (g : G) : G := fun ρ R => (g ρ R).bind fun d R1 => match d with
  | .ins c' fs => if c' = c then f [.ins c' fs] R1 else .bad
  | _ => .bad
def gMeth (c m : Str) (n : Nat) (f : List D → Rs → Res D) (g : G) (gs : GA) : G := fun ρ R => (g ρ R).bind fun d R1 => match d with
  | .ins c' fs => if c' = c ∧ fs.lookup m = none then (gs ρ R1).bind fun ds R2 => if ds.length + 1 = n then f (.ins c' fs :: ds) R2 else .bad
    else .bad
  | _ => .bad
theorem lookup_none {K : PySem.W.Frag} {F : Hp} {f : Str} : ∀ {fs : List (Str × V)} {gs : List (Str × D)}, fs.map (·.1) = gs.map (·.1) → gs.lookup f = none → fs.lookup f = none
  | [], [], _, _ => rfl
  | [], _ :: _, e, _ => by cases e
  | _ :: _, [], e, _ => by cases e
  | (a, x) :: fs, (b, y) :: gs, e, h => by
    simp only [List.map_cons, List.cons.injEq] at e
    obtain ⟨rfl, e⟩ := e
    by_cases hf : f = a
    · subst hf; simp at h
    · have hb : (f == a) = false := by simpa using hf
      simp only [List.lookup, hb] at h ⊢
      exact lookup_none (K := K) (F := F) e h
section
variable {X : Cx} {E : XK} {a b e o : Expr} {es : List Expr} {ga gb g : G} {gs : GA} {pos apos p : Pos} {n k : Nat} {f : List D → Rs → Res D} {c m fl : Str} {ps : List Str} {CX : CXT}
theorem ev_fld (cl : Cls X.K (He.ga X.K c)) (hn : NoAttr X.K (He.ga X.K c) fl) (he : Ev X E e g) (hb : attributeBase e fl X.env (eval e X.env) = eval e X.env := by rfl) : Ev X E (.Attribute e fl pos) (gFld c fl g) := pe_imp (pe_fld he hb) fun σ H Q ⟨S, F, ρ, R, v, h⟩ => by
  refine ⟨S, F, ρ, R, v, Wp.bind h fun x S1 F1 H1 dx R1 e1 c1 rx h1 => ?_⟩
  split at h1
  · split at h1
    · rename_i hc
      subst hc
      split at h1
      · rename_i u hu
        cases rx with
        | ins hf e rs =>
        obtain ⟨v, h2, h3⟩ := lookup_rep e rs hu
        exact ⟨_, _, _, _, v, rfl, e1.fh _ _ hf, cl, hn, h2, h1.now e1.fh c1 h3⟩
      · exact h1.elim
    · exact h1.elim
  · exact h1.elim
theorem ev_pr (M : PrB X.prog X.w X.K X.mg X.base CX k (He.ga X.K c) fl ps (spP X.K 1 f)) (cl : Cls X.K (He.ga X.K c)) (hr : Room (k + 1) X.A) (hx : Passes CX X.nox XF) (he : PE X e (tP X.K E g)) (hE : ∀ ds R c' fs R', f ds R ≠ .exc c' fs R')
    (hab : attributeBase e fl X.env (eval e X.env) = eval e X.env := by rfl) : Ev X E (.Attribute e fl pos) (gProp c f g) := pe_imp (pe_pr M cl hr hx he hab) fun σ H Q ⟨S, F, ρ, R, v, h⟩ => by
  refine ⟨S, F, ρ, R, v, Wp.bind h fun x S1 F1 H1 dx R1 e1 c1 rx h1 => ?_⟩
  split at h1
  · split at h1
    · rename_i hc
      subst hc
      cases rx with
      | ins hf e rs =>
      exact ⟨_, _, _, rfl, e1.fh _ _ hf, S1, F1, R1, [_], e1.fh, c1, .cons (.ins hf e rs) .nil, rfl, h1.noexc fun _ _ _ => hE _ _ _ _ _⟩
    · exact h1.elim
  · exact h1.elim
theorem ev_me {pl : Sem Bool} (M : MeB X.prog X.w X.K X.mg X.base CX k (He.ga X.K c) m ps (spP X.K n f)) (cl : Cls X.K (He.ga X.K c)) (hr : Room k X.A) (hx : Passes CX X E) (ho : Ev X E o g) (ha : EvA X E (e :: es) gs)
    (hst : starEach (e :: es) X.env = (false, eval e X.env) :: starEach es X.env := by rfl) (hpl : (backTo pos (starEach es X.env)).any (·.1) = false := by rfl)
    (ht : eval (.Call (.Attribute o m apos) (e :: es) [] pos) X.env = (do
      let ov ← eval o X.env
      standAt apos.atName
      let (f, first) ← holding [ov] (getMethod ov m pl)
      callWith pos f first (backTo pos (starEach (e :: es) X.env)) (backToKw pos (keywordEach [] X.env))) := by rfl) : Ev X E (.Call (.Attribute o m apos) (e :: es) [] pos) (gMeth c m n f g gs) := pe_imp (pe_me M cl hr hx ho ha hst hpl ht) fun σ H Q ⟨S, F, ρ, R, v, h⟩ => by
  refine ⟨S, F, ρ, R, v, Wp.bind h fun x S1 F1 H1 dx R1 e1 c1 rx h1 => ?_⟩
  split at h1
  · split at h1
    · rename_i hc
      obtain ⟨rfl, hc⟩ := hc
      cases rx with
      | @ins a dx _ fs gs' hf e rs =>
      refine ⟨_, _, _, rfl, e1.fh _ _ hf, lookup_none (K := X.K) (F := F1) e hc, S1, F1, ρ, R1, v.ext e1 c1, Wp.bind h1 fun ys S2 F2 H2 dys R2 e2 c2 ry h2 => ?_⟩
      split at h2
      · rename_i hl
        rw [List.append_nil]
        exact ⟨S2, F2, R2, _ :: dys, e2.fh, c2, .cons (e2.rep (.ins hf e rs)) ry, by simpa using hl, h2⟩
      · exact h2.elim
    · exact h1.elim
  · exact h1.elim
theorem ev_me0 {pl : Sem Bool} (M : MeB X.prog X.w X.K X.mg X.base CX k (He.ga X.K c) m ps (spP X.K n f)) (cl : Cls X.K (He.ga X.K c)) (hr : Room k X.A) (hx : Passes CX X E) (ho : Ev X E o g)
    (ht : eval (.Call (.Attribute o m apos) [] [] pos) X.env = (do
      let ov ← eval o X.env
      standAt apos.atName
      let (f, first) ← holding [ov] (getMethod ov m pl)
      callWith pos f first (backTo pos (starEach [] X.env)) (backToKw pos (keywordEach [] X.env))) := by rfl) : Ev X E (.Call (.Attribute o m apos) [] [] pos) (gMeth c m n f g gNil) := pe_imp (pe_me0 M cl hr hx ho ht) fun σ H Q ⟨S, F, ρ, R, v, h⟩ => by
  refine ⟨S, F, ρ, R, v, Wp.bind h fun x S1 F1 H1 dx R1 e1 c1 rx h1 => ?_⟩
  split at h1
  · split at h1
    · rename_i hc
      obtain ⟨rfl, hc⟩ := hc
      cases rx with
      | @ins a dx _ fs gs' hf e rs =>
      refine ⟨_, _, _, rfl, e1.fh _ _ hf, lookup_none (K := X.K) (F := F1) e hc, ?_⟩
      simp only [gNil, Res.bind_ok] at h1
      split at h1
      · rename_i hl
        exact ⟨S1, F1, R1, [_], e1.fh, c1, .cons (.ins hf e rs) .nil, by simpa using hl, h1⟩
      · exact h1.elim
    · exact h1.elim
  · exact h1.elim
/-- x(..), x an instance -/
def gCallI (c : Str) (n : Nat) (f : List D → Rs → Res D) (g : G) (gs : GA) : G := fun ρ R => (g ρ R).bind fun d R1 => match d with
  | .ins c' fs => if c' = c then (gs ρ R1).bind fun ds R2 => if ds.length + 1 = n then f (.ins c' fs :: ds) R2 else .bad
    else .bad
  | _ => .bad
theorem ev_callI {fe : Expr} (M : MeB X.prog X.w X.K X.mg X.base CX k (He.ga X.K c) "__call__" ps (spP X.K n f)) (hfi : PySem.W.fnIn X.K (He.ma X.K (He.ga X.K c) "__call__") = true) (hr : Room k X.A) (hx : Passes CX X E) (hf : Ev X E fe g) (ha : EvA X E (e :: es) gs)
    (ht : eval (.Call fe (e :: es) [] pos) X.env = (do callWith pos (← eval fe X.env) [] (backTo pos (starEach (e :: es) X.env)) (backToKw pos (keywordEach [] X.env))) := by rfl)
    (he : starEach (e :: es) X.env = (false, eval e X.env) :: starEach es X.env := by rfl) (hpl : (backTo pos (starEach es X.env)).any (·.1) = false := by rfl) : Ev X E (.Call fe (e :: es) [] pos) (gCallI c n f g gs) := pe_imp (pe_callI M hfi hr hx hf ha ht he hpl) fun σ H Q ⟨S, F, ρ, R, v, h⟩ => by
  refine ⟨S, F, ρ, R, v, Wp.bind h fun x S1 F1 H1 dx R1 e1 c1 rx h1 => ?_⟩
  split at h1
  · split at h1
    · rename_i hc
      subst hc
      cases rx with
      | @ins a dx _ fs gs' hf e rs =>
      refine ⟨_, rfl, S1, F1, ρ, R1, v.ext e1 c1, Wp.bind h1 fun ys S2 F2 H2 dys R2 e2 c2 ry h2 => ?_⟩
      split at h2
      · rename_i hl
        exact ⟨⟨_, _, e2.fh _ _ (e2.f _ _ hf)⟩, S2, F2, R2, _ :: dys, e2.fh, c2, .cons (e2.rep (.ins hf e rs)) ry, by simpa using hl, h2⟩
      · exact h2.elim
    · exact h1.elim
  · exact h1.elim
/-! ### == and != of instances of one class -/
def dEqI (c : Str) (neg : Bool) (f : List D → Rs → Res D) : D → D → Rs → Res D := fun x y R => match x, y with
  | .ins c1 fs, .ins c2 gs => if c1 = c ∧ c2 = c then (f [.ins c1 fs, .ins c2 gs] R).bind fun d R => match d with
    | .bl b => .ok (.bl (neg ^^ b)) R
    | _ => .bad
    else .bad
  | _, _ => .bad
theorem o_eqI (M : MeB X.prog X.w X.K X.mg X.base CX k (He.ga X.K c) "__eq__" ps (spP X.K 2 f)) (hr : Room k X.A) (hx : Passes CX X E) : OpR X (compareOp .Eq) (rOwnEq X.K (He.ga X.K c) (spP X.K 2 f) E) ∧ OpD X.K E (rOwnEq X.K (He.ga X.K c) (spP X.K 2 f) E) (dEqI c false f) := ⟨op_eqI M hr hx, fun S F H R x y dx dy Q hs c rx ry h => by
  unfold dEqI at h
  split at h
  · split at h
    · rename_i hc
      obtain ⟨rfl, rfl⟩ := hc
      cases rx with
      | ins hf e rs =>
      cases ry with
      | ins hf2 e2 rs2 =>
      refine ⟨_, _, _, rfl, hs _ _ hf, .inl ⟨_, _, _, rfl, hs _ _ hf2⟩, S, F, R, _, hs, c, .cons (.ins hf e rs) (.cons (.ins hf2 e2 rs2) .nil), rfl, ?_⟩
      refine Wp.bind h fun z S3 F3 H3 dz R3 e3 c3 rz h3 => ?_
      split at h3
      · cases rz
        rename_i b
        have h4 := h3.now e3.fh c3 (.bl _)
        exact ⟨b, rfl, by simpa using h4⟩
      · exact h3.elim
    · exact h.elim
  · exact h.elim⟩
theorem o_neI (M : MeB X.prog X.w X.K X.mg X.base CX k (He.ga X.K c) "__eq__" ps (spP X.K 2 f)) (hn : neIn X.K (He.ga X.K c) (He.ma X.K (He.ga X.K c) "__eq__") = true) (hr : Room (k + 1) X.A) (hx : Passes CX X E) : OpR X (compareOp .NotEq) (rOwnNe (He.ga X.K c) (spP X.K 2 f) E) ∧ OpD X.K E (rOwnNe (He.ga X.K c) (spP X.K 2 f) E) (dEqI c true f) := ⟨op_neM M hn hr hx, fun S F H R x y dx dy Q hs c rx ry h => by
  unfold dEqI at h
  split at h
  · split at h
    · rename_i hc
      obtain ⟨rfl, rfl⟩ := hc
      cases rx with
      | ins hf e rs =>
      cases ry with
      | ins hf2 e2 rs2 =>
      refine ⟨_, _, _, _, _, _, rfl, hs _ _ hf, rfl, hs _ _ hf2, S, F, R, _, hs, c, .cons (.ins hf e rs) (.cons (.ins hf2 e2 rs2) .nil), rfl, ?_⟩
      refine Wp.bind h fun z S3 F3 H3 dz R3 e3 c3 rz h3 => ?_
      split at h3
      · cases rz
        rename_i b
        have h4 := h3.now e3.fh c3 (.bl _)
        exact ⟨b, rfl, by simpa using h4⟩
      · exact h3.elim
    · exact h.elim
  · exact h.elim⟩
/-! ### operators of instances -/
def rOwnB (C : Addr) (sp : Sp) (E : XK) : R2 := fun x y H Q => ∃ a dx fs b dy gs, x = .ref a ∧ H a = some (.ins C dx fs) ∧ y = .ref b ∧ H b = some (.ins C dy gs) ∧ sp [x, y] H Q E
theorem back_of {Q : Value → Shared → Prop} {v : V} {u : Value} {s : Shared} (r : RelV v u) (h : Q u s) : PySem.W.CmpBack Q u s := by
  cases v with
  | non => cases r; exact h
  | bl b => cases r; exact h
  | int i => obtain ⟨t, rfl⟩ := r; exact h
  | str i => obtain ⟨t, rfl⟩ := r; exact h
  | byt i => obtain ⟨t, rfl⟩ := r; exact h
  | flt i => obtain ⟨t, rfl⟩ := r; exact h
  | ref a => cases r; exact h
  | ty n => cases r; exact h
theorem op_ownB {op : Operator} {C : Addr} {sp : Sp} (M : MeB X.prog X.w X.K X.mg X.base CX k C (PySem.dunder op.info.2) ps sp) (hsf : PySem.W.selfFirst X.K C = true) (hr : Room k X.A) (hx : Passes CX X E) : OpR X (binaryOp op) (rOwnB C sp E) := by
  intro pins s σ H x y v u Q I rx ry h
  obtain ⟨a, dx, fs, b, dy, gs, rfl, ha, rfl, hb, q⟩ := h
  obtain ⟨f, h1, h2, F⟩ := M.raw
  cases rx
  cases ry
  obtain ⟨mA, J, _⟩ := ins_get I.hok ha
  obtain ⟨od, J, _⟩ := J.look
  obtain ⟨mB, J', _⟩ := ins_get I.hok hb
  obtain ⟨od', J', _⟩ := J'.look
  obtain ⟨m, hF⟩ := I.fr
  refine PySem.W.binop_K hF I.ok.mod.kin J (looks_at J'.at_ J'.cls) hsf h1 h2 (thn (run_sub (A := X.A) (vs := [.ref a, .ref b]) ⟨hr, rfl⟩ F hx I (.cons rfl (.cons rfl .nil)) q) fun r s' h => ?_)
  obtain ⟨w, H', I', rw', q'⟩ := h
  exact back_of rw' ⟨w, H', I', rw', q'⟩
/-- which kinds a method with a value of a built-in type may meet -/
def binT (K : PySem.W.Frag) (C : Addr) (T : String) (op : Operator) : Bool := PySem.W.selfFirst K C && ((match PySem.W.findIn K (.ref C) (PySem.dunderR op.info.2) with | some none => true | some (some (.ref _)) => true | _ => false) &&
  ((PySem.W.findIn K (.type T) (PySem.dunder op.info.2)).isSome && ((PySem.W.findIn K (.type T) (PySem.dunderR op.info.2)).isSome && decide (PySem.W.subIn K (.type T) (.ref C) = some false))))
def rOwnT (C : Addr) (sp : Sp) (E : XK) : R2 := fun x y H Q => ∃ a dx fs i, x = .ref a ∧ H a = some (.ins C dx fs) ∧ y = .int i ∧ sp [x, y] H Q E
theorem op_ownT {op : Operator} {C : Addr} {sp : Sp} (M : MeB X.prog X.w X.K X.mg X.base CX k C (PySem.dunder op.info.2) ps sp) (hb : binT X.K C "int" op = true) (hr : Room k X.A) (hx : Passes CX X E) : OpR X (binaryOp op) (rOwnT C sp E) := by
  intro pins s σ H x y v u Q I rx ry h
  obtain ⟨a, dx, fs, i, rfl, ha, rfl, q⟩ := h
  obtain ⟨f, h1, h2, F⟩ := M.raw
  cases rx
  obtain ⟨t, rfl⟩ := ry
  obtain ⟨mA, J, _⟩ := ins_get I.hok ha
  obtain ⟨od, J, _⟩ := J.look
  obtain ⟨m, hF⟩ := I.fr
  unfold binT at hb
  obtain ⟨b1, b2⟩ := He.ba hb
  obtain ⟨b2, b3⟩ := He.ba b2
  obtain ⟨b3, b4⟩ := He.ba b3
  obtain ⟨b4, b5⟩ := He.ba b4
  obtain ⟨fo, g1⟩ := Option.isSome_iff_exists.mp b3
  obtain ⟨ro, g2⟩ := Option.isSome_iff_exists.mp b4
  have hrc : ∃ rc, PySem.W.findIn X.K (.ref C) (PySem.dunderR op.info.2) = some rc ∧ (rc = none ∨ ∃ g : Addr, rc = some (.ref g)) := by
    split at b2
    · rename_i e; exact ⟨_, e, .inl rfl⟩
    · rename_i g e; exact ⟨_, e, .inr ⟨g, rfl⟩⟩
    · cases b2
  obtain ⟨rc, e1, e2⟩ := hrc
  refine PySem.W.ksp_binT hF I.ok.mod.kin J rfl b1 h1 h2 e1 e2 g1 g2 (of_decide_eq_true b5) (thn (run_sub (A := X.A) (vs := [.ref a, .int i]) ⟨hr, rfl⟩ F hx I (.cons rfl (.cons ⟨t, rfl⟩ .nil)) q) fun r s' h => ?_)
  obtain ⟨w, H', I', rw', q'⟩ := h
  exact back_of rw' ⟨w, H', I', rw', q'⟩
def rOwnN (C : Addr) (sp : Sp) (E : XK) : V → Hp → VK → Prop := fun x H Q => ∃ a dx fs, x = .ref a ∧ H a = some (.ins C dx fs) ∧ sp [x] H Q E
theorem un_ownN {C : Addr} {sp : Sp} (M : MeB X.prog X.w X.K X.mg X.base CX k C "__neg__" ps sp) (hr : Room k X.A) (hx : Passes CX X E) : UnR X (unaryOp .USub) (rOwnN C sp E) := by
  intro pins s σ H x v Q I rx h
  obtain ⟨a, dx, fs, rfl, ha, q⟩ := h
  obtain ⟨f, h1, h2, F⟩ := M.raw
  cases rx
  obtain ⟨mA, J, _⟩ := ins_get I.hok ha
  obtain ⟨od, J, _⟩ := J.look
  obtain ⟨m, hF⟩ := I.fr
  exact PySem.W.ksp_neg hF I.ok.mod.kin J h1 h2 (run_sub (A := X.A) (vs := [.ref a]) ⟨hr, rfl⟩ F hx I (.cons rfl .nil) q)
def dOwnB (c : Str) (f : List D → Rs → Res D) : D → D → Rs → Res D := fun x y R => match x, y with
  | .ins c1 fs, .ins c2 gs => if c1 = c ∧ c2 = c then f [.ins c1 fs, .ins c2 gs] R else .bad
  | _, _ => .bad
def dOwnT (c : Str) (f : List D → Rs → Res D) : D → D → Rs → Res D := fun x y R => match x, y with
  | .ins c1 fs, .int i => if c1 = c then f [.ins c1 fs, .int i] R else .bad
  | _, _ => .bad
def dOwnN (c : Str) (f : List D → Rs → Res D) : D → Rs → Res D := fun x R => match x with
  | .ins c1 fs => if c1 = c then f [.ins c1 fs] R else .bad
  | _ => .bad
theorem o_ownB {op : Operator} (M : MeB X.prog X.w X.K X.mg X.base CX k (He.ga X.K c) (PySem.dunder op.info.2) ps (spP X.K 2 f)) (hsf : PySem.W.selfFirst X.K (He.ga X.K c) = true) (hr : Room k X.A) (hx : Passes CX X E) : OpR X (binaryOp op) (rOwnB (He.ga X.K c) (spP X.K 2 f) E) ∧ OpD X.K E (rOwnB (He.ga X.K c) (spP X.K 2 f) E) (dOwnB c f) := ⟨op_ownB M hsf hr hx, fun S F H R x y dx dy Q hs c rx ry h => by
  unfold dOwnB at h
  split at h
  · split at h
    · rename_i hc
      obtain ⟨rfl, rfl⟩ := hc
      cases rx with
      | ins hf e rs =>
      cases ry with
      | ins hf2 e2 rs2 => exact ⟨_, _, _, _, _, _, rfl, hs _ _ hf, rfl, hs _ _ hf2, S, F, R, _, hs, c, .cons (.ins hf e rs) (.cons (.ins hf2 e2 rs2) .nil), rfl, h⟩
    · exact h.elim
  · exact h.elim⟩
theorem o_ownT {op : Operator} (M : MeB X.prog X.w X.K X.mg X.base CX k (He.ga X.K c) (PySem.dunder op.info.2) ps (spP X.K 2 f)) (hb : binT X.K (He.ga X.K c) "int" op = true) (hr : Room k X.A) (hx : Passes CX X E) : OpR X (binaryOp op) (rOwnT (He.ga X.K c) (spP X.K 2 f) E) ∧ OpD X.K E (rOwnT (He.ga X.K c) (spP X.K 2 f) E) (dOwnT c f) := ⟨op_ownT M hb hr hx, fun S F H R x y dx dy Q hs c rx ry h => by
  unfold dOwnT at h
  split at h
  · split at h
    · rename_i hc
      subst hc
      cases rx with
      | ins hf e rs =>
      cases ry
      exact ⟨_, _, _, _, rfl, hs _ _ hf, rfl, S, F, R, _, hs, c, .cons (.ins hf e rs) (.cons (.int _) .nil), rfl, h⟩
    · exact h.elim
  · exact h.elim⟩
theorem o_ownN (M : MeB X.prog X.w X.K X.mg X.base CX k (He.ga X.K c) "__neg__" ps (spP X.K 1 f)) (hr : Room k X.A) (hx : Passes CX X E) : UnR X (unaryOp .USub) (rOwnN (He.ga X.K c) (spP X.K 1 f) E) ∧ UnD X.K E (rOwnN (He.ga X.K c) (spP X.K 1 f) E) (dOwnN c f) := ⟨un_ownN M hr hx, fun S F H R x dx Q hs c rx h => by
  unfold dOwnN at h
  split at h
  · split at h
    · rename_i hc
      subst hc
      cases rx with
      | ins hf e rs => exact ⟨_, _, _, rfl, hs _ _ hf, S, F, R, _, hs, c, .cons (.ins hf e rs) .nil, rfl, h⟩
    · exact h.elim
  · exact h.elim⟩
end
end Pv

namespace Pv
open PySem PySem.Spec PyProof.Rows L2 Sr
/-! ### dicts -/
section
variable {κ : Type} [DecidableEq κ] {K : PySem.W.Frag} {F : Hp}
def valD (kvs : List (κ × D)) (k : κ) : Option D := (kvs.find? fun kv => decide (kv.1 = k)).map (·.2)
def putD (kvs : List (κ × D)) (k : κ) (v : D) : List (κ × D) :=
  if (kvs.any fun kv => decide (kv.1 = k)) = true then kvs.map (fun kv => if kv.1 = k then (kv.1, v) else kv) else kvs ++ [(k, v)]
/-- the same keys, values that stand for the data -/
def RepK (K : PySem.W.Frag) (F : Hp) (fs : List (κ × V)) (gs : List (κ × D)) : Prop := fs.map (·.1) = gs.map (·.1) ∧ Reps K F (fs.map (·.2)) (gs.map (·.2))
theorem RepK.nil : RepK K F ([] : List (κ × V)) [] := ⟨rfl, .nil⟩
theorem RepK.cons_iff {p : κ × V} {q : κ × D} {fs : List (κ × V)} {gs : List (κ × D)} : RepK K F (p :: fs) (q :: gs) ↔ (p.1 = q.1 ∧ Rep K F p.2 q.2) ∧ RepK K F fs gs := by
  constructor
  · rintro ⟨h1, h2⟩
    simp only [List.map_cons, List.cons.injEq] at h1
    cases h2 with
    | cons a b => exact ⟨⟨h1.1, a⟩, h1.2, b⟩
  · rintro ⟨⟨h1, h2⟩, h3, h4⟩
    exact ⟨by simp [h1, h3], .cons h2 h4⟩
theorem RepK.len {fs : List (κ × V)} {gs : List (κ × D)} (r : RepK K F fs gs) : fs.length = gs.length := by simpa using congrArg List.length r.1
theorem RepK.val {k : κ} : ∀ {fs : List (κ × V)} {gs : List (κ × D)}, RepK K F fs gs → (∀ d, valD gs k = some d → ∃ v, valV fs k = some v ∧ Rep K F v d) ∧ (valD gs k = none → valV fs k = none)
  | [], [], _ => ⟨fun d h => by simp [valD] at h, fun _ => rfl⟩
  | [], _ :: _, r => by have := r.len; simp at this
  | _ :: _, [], r => by have := r.len; simp at this
  | p :: fs, q :: gs, r => by
    obtain ⟨⟨h1, h2⟩, h3⟩ := RepK.cons_iff.mp r
    have ih := RepK.val (k := k) h3
    by_cases e : q.1 = k
    · have e' : p.1 = k := h1.trans e
      simp only [valD, valV, List.find?_cons, e, e', decide_true, Option.map_some]
      exact ⟨fun d h => by cases h; exact ⟨_, rfl, h2⟩, fun h => by cases h⟩
    · have e' : ¬ p.1 = k := fun z => e (h1.symm.trans z)
      simp only [valD, valV, List.find?_cons, e, e', decide_false] at ih ⊢
      exact ih
theorem RepK.any {k : κ} : ∀ {fs : List (κ × V)} {gs : List (κ × D)}, RepK K F fs gs → (fs.any fun kv => decide (kv.1 = k)) = (gs.any fun kv => decide (kv.1 = k))
  | [], [], _ => rfl
  | [], _ :: _, r => by have := r.len; simp at this
  | _ :: _, [], r => by have := r.len; simp at this
  | p :: fs, q :: gs, r => by
    obtain ⟨⟨h1, h2⟩, h3⟩ := RepK.cons_iff.mp r
    simp only [List.any_cons, h1, RepK.any h3]
theorem RepK.mapSet {k : κ} {v : V} {d : D} (hv : Rep K F v d) : ∀ {fs : List (κ × V)} {gs : List (κ × D)}, RepK K F fs gs → RepK K F (fs.map (fun kv => if kv.1 = k then (kv.1, v) else kv)) (gs.map (fun kv => if kv.1 = k then (kv.1, d) else kv))
  | [], [], _ => .nil
  | [], _ :: _, r => by have := r.len; simp at this
  | _ :: _, [], r => by have := r.len; simp at this
  | p :: fs, q :: gs, r => by
    obtain ⟨⟨h1, h2⟩, h3⟩ := RepK.cons_iff.mp r
    rw [List.map_cons, List.map_cons]
    refine RepK.cons_iff.mpr ⟨?_, RepK.mapSet hv h3⟩
    by_cases e : q.1 = k
    · have e' : p.1 = k := h1.trans e
      simp [e, e', hv]
    · have e' : ¬ p.1 = k := fun z => e (h1.symm.trans z)
      simp only [e, e', if_false]
      exact ⟨h1, h2⟩
theorem RepK.put {k : κ} {v : V} {d : D} (hv : Rep K F v d) {fs : List (κ × V)} {gs : List (κ × D)} (r : RepK K F fs gs) : RepK K F (putK fs k v) (putD gs k d) := by
  unfold putK putD
  rw [r.any]
  split
  · exact r.mapSet hv
  · refine ⟨by simp [r.1], ?_⟩
    rw [List.map_append, List.map_append]
    exact r.2.append (.cons hv .nil)
end
def keyOf : D → Option Key
  | .int i => some (.inl i)
  | .str x => some (.inr x)
  | _ => none
theorem keyOf_rep {K : PySem.W.Frag} {F : Hp} {v : V} {d : D} {k : Key} (r : Rep K F v d) (h : keyOf d = some k) : v = kV k := by
  cases r with
  | int i => cases h; rfl
  | str x => cases h; rfl
  | _ => cases h
def dDGet : D → D → Rs → Res D := fun x y R => match x with
  | .dic kvs => match keyOf y with
    | some k => match valD kvs k with
      | some d => .ok d R
      | none => .bad
    | none => .bad
  | _ => .bad
/-- d.get(k, x) -/
def gGet2 (gd gk gx : G) : G := fun ρ R => (gd ρ R).bind fun x R1 => match x with
  | .dic kvs => (gk ρ R1).bind fun y R2 => (gx ρ R2).bind fun z R3 => match keyOf y with
    | some k => .ok ((valD kvs k).getD z) R3
    | none => .bad
  | _ => .bad
section
variable {X : Cx} {E : XK} {o i a e f : Expr} {gd gk gx g : G} {gs : GA} {pos apos cpos : Pos} {own ol : List Nat}
theorem ev_dget (hu : X.A.units + 1 < cLine) (ho : Ev X E o gd) (hi : Ev X E i gk) (hs : NoSl i) : Ev X E (.Subscript o i pos) (gOp dDGet gd gk) := pe_imp (pe_dget hu ho hi hs) fun σ H Q ⟨S, F, ρ, R, v, h⟩ => by
  refine ⟨S, F, ρ, R, v, Wp.bind h fun x S1 F1 H1 dx R1 e1 c1 rx h1 => ?_⟩
  refine ⟨S1, F1, ρ, R1, v.ext e1 c1, Wp.bind h1 fun y S2 F2 H2 dy R2 e2 c2 ry h2 => ?_⟩
  unfold dDGet at h2
  split at h2
  · split at h2
    · rename_i k hk
      split at h2
      · rename_i d hd
        cases rx with
        | dic hf e rs =>
        obtain ⟨u, g1, g2⟩ := (RepK.val (k := k) ⟨e, rs⟩).1 d hd
        exact ⟨_, u, rfl, .inl ⟨_, k, .inl (e2.fh _ _ (e2.f _ _ hf)), keyOf_rep ry hk, g1.symm⟩, h2.now e2.fh c2 (e2.rep g2)⟩
      · exact h2.elim
    · exact h2.elim
  · exact h2.elim
theorem ev_get2 (hu : X.A.units + 1 < cLine) (ho : Ev X E o gd) (he : Ev X E e gk) (hf : Ev X E f gx) (m : M2 X o "get" apos e f cpos) : Ev X E (.Call (.Attribute o "get" apos) [e, f] [] cpos) (gGet2 gd gk gx) := pe_imp (pe_dget2 hu ho he hf m) fun σ H Q ⟨S, F, ρ, R, v, h⟩ => by
  refine ⟨S, F, ρ, R, v, Wp.bind h fun x S1 F1 H1 dx R1 e1 c1 rx h1 => ?_⟩
  split at h1
  · rename_i kvs
    cases rx with
    | dic hf e rs =>
    refine ⟨_, rfl, .inl ⟨_, .inl (e1.fh _ _ hf)⟩, S1, F1, ρ, R1, v.ext e1 c1, Wp.bind h1 fun y S2 F2 H2 dy R2 e2 c2 ry h2 => ?_⟩
    refine ⟨S2, F2, ρ, R2, (v.ext e1 c1).ext e2 c2, Wp.bind h2 fun z S3 F3 H3 dz R3 e3 c3 rz h3 => ?_⟩
    split at h3
    · rename_i k hk
      have hh := e3.fh _ _ (e3.f _ _ (e2.f _ _ hf))
      obtain ⟨q1, q2⟩ := RepK.val (k := k) ⟨e, rs⟩
      cases hv : valD kvs k with
      | none =>
        rw [hv] at h3
        exact ⟨none, .inl ⟨_, k, .inl hh, keyOf_rep ry hk, (q2 hv).symm⟩, h3.now e3.fh c3 rz⟩
      | some d =>
        rw [hv] at h3
        obtain ⟨u, g1, g2⟩ := q1 d hv
        exact ⟨some u, .inl ⟨_, k, .inl hh, keyOf_rep ry hk, g1.symm⟩, h3.now e3.fh c3 (e3.rep (e2.rep g2))⟩
    · exact h3.elim
  · exact h1.elim
def gDNew : G := fun _ R => .ok (.dic []) R
theorem evf_dnew : EvF X E (.Dict [] [] pos) gDNew := pe_imp pe_dnewK fun σ H Q ⟨S, F, ρ, R, v, h⟩ => fun p hp => h.new v.fh v.cells (.dic rfl .nil) hp
/-- x[k] = e, x an owned dict -/
def gDSet (m : Md) (own : List Nat) (i : Nat) (gk g : G) : GS := fun ρ R => (g (see m own ρ) R).out fun d R1 => if okM m d R1 && own.contains i then match ρ[i]? with
  | some (some (.dic kvs)) => (gk (see m own ρ) R1).out fun y R2 => match keyOf y with
    | some k => if okR m R2 && decide (kvs.length < sizeLine) then .nx (ρ.set i (some (.dic (putD kvs k d)))) R2 else .bad
    | none => .bad
  | _ => .bad
  else .bad
theorem SIn.dicAt {K : PySem.W.Frag} {S0 S : List Addr} {F0 H0 F H : Hp} {ρ : PEnv} {R : Rs} {σ : L2.St} {i : Nat} {ds : List (Key × D)} (s : SIn K S0 F0 H0 own ρ R σ S F H) (hi : i ∈ own) (h : ρ[i]? = some (some (.dic ds))) : ∃ a xs, σ[i]? = some (some (.ref a)) ∧ H a = some (.dK xs) ∧ RepK K F xs ds := by
  obtain ⟨v, h1, a, o, rfl, h3, h4, h5, h6, h7⟩ := s.ow i hi _ h
  cases h4 with
  | dic e r => exact ⟨a, _, h1, h3, e, r⟩
theorem WpS.low {K : PySem.W.Frag} {S0 : List Addr} {F0 F1 H0 : Hp} {out : Out} {Dn : Ends} (h : WpS K E S0 F0 H0 own ol out Dn) (h01 : Same F0 F1) (hn : ∀ b u, H0 b = some u → F0 b = none → F1 b = none) : WpS K E S0 F1 H0 own ol out Dn := by
  cases out with
  | nx ρ R => exact fun σ H ⟨S, F, s⟩ => h σ H ⟨S, F, s.up h01 hn⟩
  | bk ρ R => exact fun σ H ⟨S, F, s⟩ => h σ H ⟨S, F, s.up h01 hn⟩
  | ct ρ R => exact fun σ H ⟨S, F, s⟩ => h σ H ⟨S, F, s.up h01 hn⟩
  | rt d R => exact fun v S F H e c r => h v S F H (e.up h01 hn) c r
  | exc c fs R => exact fun v S F H e c r => h v S F H (e.up h01 hn) c r
  | bad => exact h
theorem st_dset (m : Md) {j : Nat} (hu : X.A.units + 1 < cLine) (ho : PE X o (tVar j)) (hi : Ev X E i gk) (he : Ev X E e g) {ppos : Pos}
    (hg : ∀ {t : TSet}, PSet X t → PG X (.Subscript o i ppos) (L2.gSub (tVar j) (tP X.K E gk) t))
    (hs : swapsWithSole [.Subscript o i ppos] e pos.line X.env = pure false := by rfl) (hw : swappedStores [.Subscript o i ppos] e X.env = pure none := by rfl) (h1 : (assignEach [.Subscript o i ppos] X.env).map (·.2) = [assign (.Subscript o i ppos) X.env] := by rfl) :
    Stm X E own own ol (.Assign [.Subscript o i ppos] e pos) (gDSet m own j gk g) := ps_imp (ps_asg he (hg (set_dict hu)) hs hw h1) fun Dn σ H ⟨S0, F0, H0, ρ, R, s, h⟩ => by
  refine see_wp rfl s h fun v d R1 S F S1 F1 H1 s ef eg c r _ h1 => ?_
  split at h1
  · rename_i hc
    simp only [Bool.and_eq_true, List.contains_eq_mem, decide_eq_true_eq] at hc
    obtain ⟨F2, s2, r2⟩ := s.seen ef eg c r hc.1
    split at h1
    · rename_i kvs hkvs
      obtain ⟨a, xs, g1, g2, g3⟩ := s2.dicAt hc.2 hkvs
      refine ⟨_, g1, see_wp rfl ⟨_, _, s2.low s2.ext.f (.refl F2)⟩ (h1.low s2.ext.f s2.ext.nw) fun y dy R2 S3 F3 S4 F4 H4 s3 ef3 eg3 c3 ry _ h2 => ?_⟩
      split at h2
      · rename_i k hk
        split at h2
        · rename_i hc2
          simp only [Bool.and_eq_true, decide_eq_true_eq] at hc2
          obtain ⟨F5, s5, hF5⟩ := s3.seenR ef3 eg3 c3 hc2.1
          obtain ⟨b, ys, q1, q2, q3⟩ := s5.dicAt hc.2 hkvs
          have e1 := g1.symm.trans q1
          cases e1
          exact ⟨_, _, rfl, .inl ⟨ys, k, q2, keyOf_rep ry hk, by rw [q3.len]; exact hc2.2, rfl⟩, h2 _ _ ⟨_, _, s5.put hc.2 hkvs q1 (let z := RepK.put (k := k) (r2.mono s5.ext.f) q3; .dic z.1 z.2)⟩⟩
        · exact h2.elim
      · exact h2.elim
    · exact h1.elim
  · exact h1.elim
end
end Pv

namespace Pv
open PySem PySem.Spec PyProof.Rows L2 Sr
/-! ### known tuples -/
def dArm : List D → Rs → Res D := fun xs R => if xs.length ≤ sizeLine then .ok (.arm xs) R else .bad
def gArm (gs : GA) : G := fun ρ R => (gs ρ R).bind dArm
section
variable {X : Cx} {E : XK} {a b e : Expr} {es : List Expr} {ga gb g : G} {gs : GA} {pos : Pos} {own ol : List Nat}
theorem wp_arm {K : PySem.W.Frag} {S : List Addr} {F H : Hp} {R : Rs} {xs : List D} {vs : List V} {Q : VK} {o : Obj} (hs : Same F H) (c : Cells K S F H R) (r : Reps K F vs xs) (ho : o.dict = none) (h : Wp K E (fun _ F v d => Rep K F v d) S F H (.ok (.arm xs) R) Q) {p : Addr} (hp : H p = none) : Q (.ref p) (upd H p (.frz o (.tup vs))) :=
  h _ S _ _ (.new hs hp) (c.new hs hp) (.arm upd_same ho (r.mono (same_upd (hs.free hp))))
theorem ev_arm {x1} (hs : EvA X E es gs) : Ev X E (.Tuple es x1 pos) (gArm gs) := pe_imp (pe_tupF hs) fun σ H Q ⟨S, F, ρ, R, v, h⟩ => by
  refine ⟨S, F, ρ, R, v, Wp.bind h fun x S1 F1 H1 dx R1 e1 c1 rx h1 => ?_⟩
  unfold dArm at h1
  split at h1
  · rename_i hl
    exact ⟨by rw [rx.length]; exact hl, fun p o hp ho => wp_arm e1.fh c1 rx ho h1 hp⟩
  · exact h1.elim
def dTupA : List D → Rs → Res D := fun ds R => match ds with
  | [.lst xs] => .ok (.arm xs) R
  | _ => .bad
theorem c_tupA : CallR X (.type "tuple") (rTupF X.K) ∧ CallD X.K E (rTupF X.K) dTupA := ⟨call_tupF, fun S F H R vs ds Q hs c r h => by
  unfold dTupA at h
  split at h
  · cases r with
    | cons r rn =>
    cases rn
    cases r with
    | lst hf rs => exact ⟨_, _, rfl, .of (hs _ _ hf), fun p o hp ho => wp_arm hs c rs ho h hp⟩
  · exact h.elim⟩
/-- the pairs (key, value) of a list of data -/
def prsOf : List D → Option (List (Key × D))
  | [] => some []
  | .tup [k, v] :: r => match keyOf k, prsOf r with
    | some k, some ps => some ((k, v) :: ps)
    | _, _ => none
  | _ :: _ => none
def mergeD (kvs more : List (Key × D)) : List (Key × D) := more.foldl (fun acc kv => putD acc kv.1 kv.2) kvs
theorem RepK.merge {K : PySem.W.Frag} {F : Hp} : ∀ {fs : List (Key × V)} {gs : List (Key × D)} {ms : List (Key × V)} {ns : List (Key × D)}, RepK K F fs gs → RepK K F ms ns → RepK K F (mergeK fs ms) (mergeD gs ns)
  | _, _, [], [], r, _ => r
  | _, _, [], _ :: _, _, q => by have := q.len; simp at this
  | _, _, _ :: _, [], _, q => by have := q.len; simp at this
  | fs, gs, p :: ms, q :: ns, r, t => by
    obtain ⟨⟨h1, h2⟩, h3⟩ := RepK.cons_iff.mp t
    show RepK K F (mergeK (putK fs p.1 p.2) ms) (mergeD (putD gs q.1 q.2) ns)
    rw [h1]
    exact RepK.merge (RepK.put h2 r) h3
theorem prs_rep {K : PySem.W.Frag} {F H : Hp} (hs : Same F H) : ∀ {vs : List V} {ds : List D} {ps : List (Key × D)}, Reps K F vs ds → prsOf ds = some ps → ∃ (as : List Addr) (kvs : List (Key × V)), vs = as.map V.ref ∧ Paired (fun p kv => SqT K H p [kV kv.1, kv.2]) as kvs ∧ RepK K F kvs ps
  | _, _, ps, .nil, h => by cases h; exact ⟨[], [], rfl, .nil, .nil⟩
  | _, _, ps, .cons (d := d) (ds := ds) r rr, h => by
    unfold prsOf at h
    split at h
    · rename_i heq; cases heq
    · rename_i k v rest heq
      cases heq
      split at h
      · rename_i k' ps' hk hps
        cases h
        obtain ⟨as, kvs, e1, e2, e3⟩ := prs_rep hs rr hps
        cases r with
        | tup hf rs =>
        cases rs with
        | cons r1 rs =>
        cases rs with
        | cons r2 rs =>
        cases rs
        have e4 := keyOf_rep r1 hk
        subst e4
        exact ⟨_ :: as, (k', _) :: kvs, by rw [e1]; rfl, .cons (SqT.of (hs _ _ hf)) e2, RepK.cons_iff.mpr ⟨⟨rfl, r2⟩, e3⟩⟩
      · cases h
    · cases h
def dDictF : List D → Rs → Res D := fun ds R => match ds with
  | [.arm xs] => match prsOf xs with
    | some ps => .ok (.dic (mergeD [] ps)) R
    | none => .bad
  | _ => .bad
theorem cf_dictF (hc : X.calm = true) : CallR X (.type "dict") (rDictF X.K) ∧ CallF X.K E (rDictF X.K) dDictF := ⟨call_dictF hc, fun S F H R vs ds Q hs c r h => by
  unfold dDictF at h
  split at h
  · split at h
    · rename_i ps hps
      cases r with
      | cons r rn =>
      cases rn
      cases r with
      | arm hf ho rs =>
      obtain ⟨as, kvs, e1, e2, e3⟩ := prs_rep hs rs hps
      subst e1
      have q := RepK.merge (K := X.K) (F := F) .nil e3
      exact ⟨_, _, as, kvs, rfl, hs _ _ hf, ho, e2, fun p hp => h.new hs c (.dic q.1 q.2) hp⟩
    · exact h.elim
  · exact h.elim⟩
/-- keys that are ints -/
def iksOf : List (Key × D) → Option (List Int)
  | [] => some []
  | (.inl i, _) :: r => (iksOf r).map (i :: ·)
  | _ :: _ => none
theorem iks_rep : ∀ {gs : List (Key × D)} {ks : List Int}, iksOf gs = some ks → gs.map (·.1) = ks.map Sum.inl
  | [], ks, h => by cases h; rfl
  | (.inl i, d) :: r, ks, h => by
    simp only [iksOf] at h
    cases q : iksOf r with
    | none => rw [q] at h; cases h
    | some ms => rw [q] at h; cases h; simp [iks_rep q]
  | (.inr x, d) :: r, ks, h => by cases h
/-- sorted, as merge sort does -/
def sortI (ks : List Int) : List Int := ks.mergeSort (fun a b => decide (a ≤ b))
theorem sortI_eq {ys ks : List Int} (hp : ys.Perm ks) (hs : ys.Pairwise (· ≤ ·)) : ys = sortI ks := by
  have h1 : (sortI ks).Perm ks := List.mergeSort_perm ks _
  have h2 : (sortI ks).Pairwise (· ≤ ·) := by
    have := List.pairwise_mergeSort (le := fun a b : Int => decide (a ≤ b)) (fun a b c h1 h2 => by simp at *; omega) (fun a b => by simp; omega) ks
    exact this.imp (by intro a b h; simpa using h)
  exact List.Perm.eq_of_pairwise (le := fun a b : Int => a ≤ b) (fun a b _ _ h1 h2 => by omega) hs h2 (hp.trans h1.symm)
def dSortedD : List D → Rs → Res D := fun ds R => match ds with
  | [.dic kvs] => match iksOf kvs with
    | some ks => .ok (.lst ((sortI ks).map D.int)) R
    | none => .bad
  | _ => .bad
theorem c_sortedD (hc : X.calm = true) : CallR X (.builtin "sorted") rSortedDI ∧ CallD X.K E rSortedDI dSortedD := ⟨cr_sortedDI hc, fun S F H R vs ds Q hs c r h => by
  unfold dSortedD at h
  split at h
  · split at h
    · rename_i ks hks
      cases r with
      | cons r rn =>
      cases rn
      cases r with
      | dic hf e rs =>
      refine ⟨_, _, ks, rfl, hs _ _ hf, by rw [e]; exact iks_rep hks, fun ys p hp hq hn => ?_⟩
      rw [sortI_eq hp hq]
      exact wp_lst hs c (.ints _) h hn
    · exact h.elim
  · exact h.elim⟩
def dSortedI : List D → Rs → Res D := fun ds R => match ds with
  | [.lst xs] => match intsOf xs with
    | some ks => .ok (.lst ((sortI ks).map D.int)) R
    | none => .bad
  | _ => .bad
theorem c_sortedI : CallR X (.builtin "sorted") (rSortedI X.K) ∧ CallD X.K E (rSortedI X.K) dSortedI := ⟨cr_sortedI, fun S F H R vs ds Q hs c r h => by
  unfold dSortedI at h
  split at h
  · split at h
    · rename_i ks hks
      cases r with
      | cons r rn =>
      cases rn
      cases r with
      | lst hf rs =>
      rw [intsOf_eq hks] at rs
      rw [Reps.of_ints rs] at hf
      refine ⟨_, ks, rfl, .of (hs _ _ hf), fun ys p hp hq hn => ?_⟩
      rw [sortI_eq hp hq]
      exact wp_lst hs c (.ints _) h hn
    · exact h.elim
  · exact h.elim⟩
/-! ### == of data -/
mutual
def D.pd : D → Option PyData
  | .non => some .none
  | .bl b => some (.bool b)
  | .int i => some (.int i)
  | .str x => some (.str x)
  | .tup xs => (pdL xs).map .tuple
  | .arm xs => (pdL xs).map .tuple
  | .lst xs => (pdL xs).map .list
  | _ => none
def pdL : List D → Option (List PyData)
  | [] => some []
  | d :: r => match d.pd, pdL r with
    | some a, some as => some (a :: as)
    | _, _ => none
end
mutual
theorem pd_rep {K : PySem.W.Frag} {F H : Hp} (hs : Same F H) : ∀ {v : V} {d : D} {p : PyData}, Rep K F v d → d.pd = some p → Dp K H v p
  | _, _, _, .non, h => by cases h; exact .non
  | _, _, _, .bl b, h => by cases h; exact .bl b
  | _, _, _, .int i, h => by cases h; exact .int i
  | _, _, _, .str x, h => by cases h; exact .str x
  | _, _, _, .tup (ds := ds) hf r, h => by
    simp only [D.pd] at h
    obtain ⟨ps, h1, rfl⟩ := Option.map_eq_some_iff.mp h
    exact .tup (.of (hs _ _ hf)) (pdL_rep hs r h1)
  | _, _, _, .arm (ds := ds) hf _ r, h => by
    simp only [D.pd] at h
    obtain ⟨ps, h1, rfl⟩ := Option.map_eq_some_iff.mp h
    exact .tup (.inl (.inr ⟨_, hs _ _ hf⟩)) (pdL_rep hs r h1)
  | _, _, _, .lst (ds := ds) hf r, h => by
    simp only [D.pd] at h
    obtain ⟨ps, h1, rfl⟩ := Option.map_eq_some_iff.mp h
    exact .lst (.of (hs _ _ hf)) (pdL_rep hs r h1)
  | _, _, _, .ins _ _ _, h => by simp [D.pd] at h
  | _, _, _, .dic _ _ _, h => by simp [D.pd] at h
  | _, _, _, .dit _ _ _, h => by simp [D.pd] at h
  | _, _, _, .ty _, h => by simp [D.pd] at h
  | _, _, _, .cls _, h => by simp [D.pd] at h
theorem pdL_rep {K : PySem.W.Frag} {F H : Hp} (hs : Same F H) : ∀ {vs : List V} {ds : List D} {ps : List PyData}, Reps K F vs ds → pdL ds = some ps → DpAll K H vs ps
  | _, _, _, .nil, h => by simp [pdL] at h; subst h; exact .nil
  | _, _, ps, .cons r rr, h => by
    simp only [pdL] at h
    split at h
    · rename_i a as h1 h2
      cases h
      exact .cons (pd_rep hs r h1) (pdL_rep hs rr h2)
    · cases h
end
def dEqD (neg : Bool) : D → D → Rs → Res D := fun x y R => match x.pd, y.pd with
  | some a, some b => if SeqAt.shaped a && SeqAt.shaped b then .ok (.bl (neg ^^ PyData.eqv a b)) R else .bad
  | _, _ => .bad
theorem o_eqD (hu : X.A.units + 64 < cLine) : OpR X (compareOp .Eq) (rEqD X.K) ∧ OpD X.K E (rEqD X.K) (dEqD false) := ⟨op_eqD hu, fun S F H R x y dx dy Q hs c rx ry h => by
  unfold dEqD at h
  split at h
  · rename_i p q h1 h2
    split at h
    · rename_i hh
      simp only [Bool.and_eq_true] at hh
      exact ⟨p, q, pd_rep hs rx h1, pd_rep hs ry h2, hh.1, hh.2, by simpa using h.now hs c (.bl _)⟩
    · exact h.elim
  · exact h.elim⟩
theorem o_neD (hu : X.A.units + 64 < cLine) : OpR X (compareOp .NotEq) (rNeD X.K) ∧ OpD X.K E (rNeD X.K) (dEqD true) := ⟨op_neD hu, fun S F H R x y dx dy Q hs c rx ry h => by
  unfold dEqD at h
  split at h
  · rename_i p q h1 h2
    split at h
    · rename_i hh
      simp only [Bool.and_eq_true] at hh
      exact ⟨p, q, pd_rep hs rx h1, pd_rep hs ry h2, hh.1, hh.2, by simpa using h.now hs c (.bl _)⟩
    · exact h.elim
  · exact h.elim⟩
end
end Pv

namespace Pv
open PySem PySem.Spec PyProof.Rows L2 Sr
/-! ### defs whose first argument is a mutable cell -/
def spL (K : PySem.W.Frag) (n : Nat) (f : Nat → List D → Rs → Res D) : Sp := fun vs H Q E => ∃ S F R l a us ds, vs = V.ref a :: us ∧ S[l]? = some a ∧ Same F H ∧ Cells K S F H R ∧ Reps K F us ds ∧ ds.length + 1 = n ∧ Wp K E (fun _ F v d => Rep K F v d) S F H (f l ds R) Q
theorem spL_len {K : PySem.W.Frag} {n : Nat} {f : Nat → List D → Rs → Res D} (vs : List V) (H : Hp) (Q : VK) (E : XK) (h : spL K n f vs H Q E) : vs.length = n := by
  obtain ⟨S, F, R, l, a, us, ds, rfl, _, _, _, r, hl, _⟩ := h
  rw [List.length_cons, r.length]; exact hl
theorem spL_eq {K : PySem.W.Frag} {n : Nat} {f f' : Nat → List D → Rs → Res D} (h : ∀ l ds R, ds.length + 1 = n → f' l ds R ≠ .bad → f' l ds R = f l ds R) (vs : List V) (H : Hp) (Q : VK) (E : XK) (q : spL K n f' vs H Q E) : spL K n f vs H Q E := by
  obtain ⟨S, F, R, l, a, us, ds, e, e1, hs, c, r, hl, q⟩ := q
  refine ⟨S, F, R, l, a, us, ds, e, e1, hs, c, r, hl, ?_⟩
  by_cases hb : f' l ds R = .bad
  · rw [hb] at q; exact q.elim
  · rw [← h l ds R hl hb]; exact q
def startL (n l : Nat) (ds : List D) : PEnv := some (.loc l) :: startD (n - 1) ds
def runL (n : Nat) (g : GS) : Nat → List D → Rs → Res D := fun l ds R => out1 (g (startL n l ds) R)
section
variable {K : PySem.W.Frag} {S : List Addr} {F H : Hp} {R : Rs} {E : XK} {Q : VK}
theorem sin_startL {n l : Nat} {a : Addr} {ds : List D} {vs : List V} {N : List Str} {own : List Nat} (hN : N.length = n) (hn : 0 < n) (ho : ∀ i ∈ own, ds.length + 1 ≤ i) (hs : Same F H) (c : Cells K S F H R) (hl : S[l]? = some a) (r : Reps K F vs ds) : SIn K S F H own (startL n l ds) R (L2.start N (.ref a :: vs)) S F H := by
  have hst : ∀ x, L2.start N (x :: vs) = some x :: L2.start (N.drop 1) vs := fun x => by
    unfold L2.start
    simp only [List.map_cons, List.cons_append, List.length_cons, List.length_drop]
    congr 3
    omega
  have hN1 : (N.drop 1).length = n - 1 := by simp [hN]
  have key : ∀ (i : Nat) (d : D), (startL n l ds)[i]? = some (some d) → i < ds.length + 1 ∧ ∃ v, (L2.start N (.ref a :: vs))[i]? = some (some v) ∧ RepV K S F v d := fun i d h => by
    rw [hst]
    cases i with
    | zero =>
      cases h
      exact ⟨by omega, _, rfl, .inr ⟨l, a, rfl, rfl, hl⟩⟩
    | succ i =>
      have h : (startD (n - 1) ds)[i]? = some (some d) := h
      obtain ⟨h0, v, h1, h2⟩ := startD_get hN1 r h
      exact ⟨by omega, v, by simpa using h1, .inl h2⟩
  refine ⟨.refl hs, c, fun i d h _ => (key i d h).2, fun i hi d h => ?_, fun i hi j hj d d' v h1 => ?_, ?_⟩
  · have := (key i d h).1
    have := ho i hi
    omega
  · have := (key i d h1).1
    have := ho i hi
    omega
  · rw [hst]
    unfold startL startD L2.start
    simp [r.length, hN]
end
section
variable {fa : List He.Fa} {fn : List He.DefD} {gt : List PropD} {ex : PySem.W.Frag → Bool} {K : PySem.W.Frag} {mg : Str → Option Value} {P : Program} {w : World} {base : Heap}
theorem BodyP.okL {k n : Nat} {N ps : List Str} {q : Str} {st : Stmt} {own own' : List Nat} {g : GS} (B : BodyP P w K mg base k N q st own own' g) (hn : N.length = n) (hp : 0 < n) (ho : ∀ i ∈ own, ps.length ≤ i) {f : Addr} {cdv : Value} {A : Around} {outer : List Env} {s : Shared} {H : Hp} {vs : List V} {Q : VK} {E : XK}
    (hr : Room k (A.deeper (envOfC q (defScope st) s.heap.objs.size f cdv))) (h : spL K ps.length (runL n g) vs H Q E) :
    ∃ t, PSs (cxOf (L2.CX P w) P w K mg base N q (defScope st) f cdv A outer s H E) (defBody st) t ∧ t { nx := fun _ H' => Q .non H', rt := Q } (L2.start N vs) H := by
  obtain ⟨S, F, R, l, a, us, ds, rfl, e1, hs, c, r, hl, h⟩ := h
  exact ⟨_, B f cdv A outer s H E hr, S, F, H, _, R, ⟨S, F, sin_startL hn hp (fun i hi => by rw [hl]; exact ho i hi) hs c e1 r⟩, body_wp h⟩
theorem fnL {N ps : List Str} {k n : Nat} {x : Str} {own own' : List Nat} {g : GS} (st : Stmt) (S : Say fa fn gt ex K mg) (i j : Nat) (hd : fn[i]? = some ⟨(x, none), x, x, defArgs st, defBody st, defScope st, [], []⟩) (hg : fa[j]? = some (.glo x)) (SC : FnScope N ps (defScope st))
    (hb : ∀ (kV doc pm : Value) (an : Option Addr) (cdv ct : Value) (us : List Value), us.length = ps.length → bindArgs (PySem.W.fnOf x x (defArgs st) (defBody st) (defScope st) .none kV doc pm an cdv ct) ⟨us, []⟩ = pure (ps.zip us))
    (hn : N.length = n) (hp : 0 < n) (ho : ∀ i ∈ own, ps.length ≤ i) (B : BodyP P w K mg base k N x st own own' g) : Fn P w K mg base (L2.CX P w) (k + 1) x ps (spL K ps.length (runL n g)) := by
  obtain ⟨fd, F⟩ := S.c.def_ i hd
  exact ⟨_, fd, S.glo j hg, F.kp, F.bindsN hb, F.ok SC spL_len fun cdv A outer s H vs Q E hr h => B.okL hn hp ho hr h, F.at_⟩
theorem meL {N ps : List Str} {k n : Nat} {c m q : Str} {own own' : List Nat} {g : GS} (st : Stmt) (S : Say fa fn gt ex K mg) (i j : Nat) (hd : fn[i]? = some ⟨(c, some m), m, q, defArgs st, defBody st, defScope st, [], []⟩) (hg : fa[j]? = some (.meth c m)) (SC : FnScope N ps (defScope st))
    (hb : ∀ (kV doc pm : Value) (an : Option Addr) (cdv ct : Value) (us : List Value), us.length = ps.length → bindArgs (PySem.W.fnOf m q (defArgs st) (defBody st) (defScope st) .none kV doc pm an cdv ct) ⟨us, []⟩ = pure (ps.zip us))
    (hn : N.length = n) (hp : 0 < n) (ho : ∀ i ∈ own, ps.length ≤ i) (B : BodyP P w K mg base k N q st own own' g) : MeB P w K mg base (L2.CX P w) (k + 1) (He.ga K c) m ps (spL K ps.length (runL n g)) := by
  obtain ⟨fd, F⟩ := S.c.def_ i hd
  have M := He.meth_ok (S.c.fact j hg)
  exact ⟨_, fd, M.at_, M.fn, M.kp, F.bindsN hb, F.ok SC spL_len fun cdv A outer s H vs Q E hr h => B.okL hn hp ho hr h⟩
theorem _root_.Sr.Fn.toL {x : Str} {ps : List Str} {k n : Nat} {CX : CXT} {f f' : Nat → List D → Rs → Res D} (F : Fn P w K mg base CX k x ps (spL K n f)) (h : ∀ l ds R, ds.length + 1 = n → f' l ds R ≠ .bad → f' l ds R = f l ds R) : Fn P w K mg base CX k x ps (spL K n f') := F.imp (spL_eq h)
theorem _root_.Sr.MeB.toL {C : Addr} {m : Str} {ps : List Str} {k n : Nat} {CX : CXT} {f f' : Nat → List D → Rs → Res D} (F : MeB P w K mg base CX k C m ps (spL K n f)) (h : ∀ l ds R, ds.length + 1 = n → f' l ds R ≠ .bad → f' l ds R = f l ds R) : MeB P w K mg base CX k C m ps (spL K n f') := F.imp (spL_eq h)
end
/-- f(x, ..), x a slot that holds a mutable cell -/
def gCallL (i n : Nat) (f : Nat → List D → Rs → Res D) (gs : GA) : G := fun ρ R => match ρ[i]? with
  | some (some (.loc l)) => (gs ρ R).bind fun ds R1 => if ds.length + 1 = n then f l ds R1 else .bad
  | _ => .bad
section
variable {X : Cx} {E : XK} {a b e o : Expr} {es : List Expr} {ga gb g : G} {gs : GA} {pos p : Pos} {n k : Nat} {x : Str} {ps : List Str} {CX : CXT} {own ol : List Nat}
theorem loc_get {K : PySem.W.Frag} {S : List Addr} {F H : Hp} {ρ : PEnv} {R : Rs} {σ : L2.St} {i l : Nat} (v : View K S F H ρ R σ) (h : ρ[i]? = some (some (.loc l))) : ∃ a, σ[i]? = some (some (.ref a)) ∧ S[l]? = some a := by
  obtain ⟨u, h1, h2⟩ := v.env i _ h
  rcases h2 with h2 | ⟨m, a, e1, e2, e3⟩
  · cases h2
  · cases e1
    subst e2
    exact ⟨a, h1, e3⟩
theorem tCallL_of {K : PySem.W.Frag} {i : Nat} {f : Nat → List D → Rs → Res D} {σ : L2.St} {H : Hp} {Q : VK} (h : tP K E (gCallL i n f gs) σ H Q) : tCall (spL K n f) [] E (tCons (tVar i) (tPA K E gs)) σ H Q := by
  obtain ⟨S, F, ρ, R, v, h⟩ := h
  unfold gCallL at h
  split at h
  · rename_i l hl
    obtain ⟨a, h1, h2⟩ := loc_get v hl
    refine ⟨_, h1, S, F, ρ, R, v, Wp.bind h fun xs S1 F1 H1 ds R1 e1 c1 rx h1 => ?_⟩
    show spL K n f ((V.ref a :: xs) ++ []) H1 Q E
    rw [List.append_nil]
    split at h1
    · rename_i hn
      exact ⟨S1, F1, R1, l, a, xs, ds, rfl, pre_get e1.s h2, e1.fh, c1, rx, hn, h1⟩
    · exact h1.elim
  · exact h.elim
theorem ev_fnL {i : Nat} {f : Nat → List D → Rs → Res D} (F : Fn X.prog X.w X.K X.mg X.base CX k x ps (spL X.K n f)) (hr : Room k X.A) (hx : Passes CX X E) (ho : PE X e (tVar i)) (ha : EvA X E es gs) (hg : Gl X x := by rfl) (hdb : (x == ("__debug__" : Str)) = false := by decide)
    (he : starEach (e :: es) X.env = (false, eval e X.env) :: starEach es X.env := by rfl) (hpl : (backTo pos (starEach es X.env)).any (·.1) = false := by rfl) :
    Ev X E (.Call (.Name x p) (e :: es) [] pos) (gCallL i n f gs) := pe_imp (pe_fn F hr hx (pa_cons ho ha he) hg hdb he hpl) fun _ _ _ => tCallL_of
/-! ### C(..): a new instance, frozen behind its __init__ -/
def mkEnd (c : Str) (m : Nat) (r : Res D) : Res D := match r with
  | .ok .non R2 => match R2.getLast? with
    | some (.ins c' fs) => if R2.length = m + 1 ∧ c' = c then .ok (.ins c fs) R2.dropLast else .bad
    | _ => .bad
  | .exc e fs R2 => if R2.length = m + 1 then .exc e fs R2.dropLast else .bad
  | _ => .bad
def gMk (c : Str) (n : Nat) (f : Nat → List D → Rs → Res D) (gs : GA) : G := fun ρ R => (gs ρ R).bind fun ds R1 => if ds.length + 1 = n then mkEnd c R1.length (f R1.length ds (R1 ++ [.ins c []])) else .bad
theorem Cells.snoc {K : PySem.W.Frag} {S : List Addr} {F H : Hp} {R : Rs} (c : Cells K S F H R) {x dx : Addr} {C : Str} (hs : Same F H) (hx : H x = none) (hd : H dx = none) (hne : dx ≠ x) : Cells K (S ++ [x]) F (L2.upd (L2.upd H dx (.own x)) x (.ins (He.ga K C) dx [])) (R ++ [.ins C []]) := by
  refine ⟨by simp [c.len], fun i a d h1 h2 => ?_, ?_⟩
  · by_cases hi : i < S.length
    · rw [List.getElem?_append_left hi] at h1
      rw [List.getElem?_append_left (by rw [← c.len]; exact hi)] at h2
      obtain ⟨n, o, h3, h4⟩ := c.at_ i a d h1 h2
      exact ⟨n, o, by rw [upd_ne (ne_of_none h3 hx), upd_ne (ne_of_none h3 hd)]; exact h3, h4⟩
    · rw [List.getElem?_append_right (by omega)] at h1
      rw [List.getElem?_append_right (by rw [← c.len]; omega)] at h2
      have hi2 : i - S.length = 0 := by
        have := (List.getElem?_eq_some_iff.mp h1).1
        simp at this; omega
      have hi3 : i - R.length = 0 := by rw [← c.len]; exact hi2
      rw [hi2] at h1
      rw [hi3] at h2
      cases h1
      cases h2
      exact ⟨hs.free hx, _, upd_same, .ins rfl .nil⟩
  · refine List.nodup_append.mpr ⟨c.nd, by simp, fun a ha b hb => ?_⟩
    have : b = x := by simpa using hb
    subst this
    obtain ⟨_, o, ho⟩ := c.has ha
    exact fun z => by rw [z, hx] at ho; cases ho
theorem ext_snoc {S S2 : List Addr} {F F2 H H2 : Hp} {x dx : Addr} {C : Addr} (hx : H x = none) (hd : H dx = none) (e : Ext (S ++ [x]) F (upd (upd H dx (.own x)) x (.ins C dx [])) S2 F2 H2) : S <+: S2 ∧ Same F F2 ∧ Same F2 H2 ∧ (∀ b u, H b = some u → b ∉ S → H2 b = some u) ∧ (∀ b u, H b = some u → ∃ u', H2 b = some u') ∧ (∀ b u, H b = some u → F b = none → F2 b = none) := by
  have keep : ∀ b u, H b = some u → (upd (upd H dx (.own x)) x (.ins C dx [])) b = some u := fun b u h => by rw [upd_ne (ne_of_none h hx), upd_ne (ne_of_none h hd)]; exact h
  refine ⟨(List.prefix_append _ _).trans e.s, e.f, e.fh, fun b u h hb => e.fr b u (keep b u h) (fun z => ?_), fun b u h => e.th b u (keep b u h), fun b u h n => e.nw b u (keep b u h) n⟩
  rcases List.mem_append.mp z with z | z
  · exact hb z
  · have : b = x := by simpa using z
    rw [this, hx] at h; cases h
theorem prefix_len {S S2 : List Addr} {x : Addr} (h : S ++ [x] <+: S2) (hl : S2.length = S.length + 1) : S2 = S ++ [x] := by
  obtain ⟨t, ht⟩ := h
  have : t = [] := by
    have := congrArg List.length ht
    simp at this
    exact List.eq_nil_of_length_eq_zero (by omega)
  rw [this, List.append_nil] at ht
  exact ht.symm
theorem Cells.drop {K : PySem.W.Frag} {S : List Addr} {F H : Hp} {R : Rs} {x : Addr} (c : Cells K (S ++ [x]) F H R) {F' : Hp} (hF : Same F F') (hn : ∀ b ∈ S, F' b = none) : Cells K S F' H R.dropLast := by
  have hl := c.len
  simp at hl
  refine ⟨by simp [← hl], fun i a d h1 h2 => ?_, (List.nodup_append.mp c.nd).1⟩
  have hi : i < S.length := (List.getElem?_eq_some_iff.mp h1).1
  have h2' : R[i]? = some d := by
    rw [List.dropLast_eq_take, List.getElem?_take] at h2
    split at h2
    · exact h2
    · cases h2
  obtain ⟨n, o, h3, h4⟩ := c.at_ i a d (by rw [List.getElem?_append_left hi]; exact h1) h2'
  exact ⟨hn a (List.mem_of_getElem? h1), o, h3, h4.mono hF⟩
theorem ev_mk {c : Str} {f : Nat → List D → Rs → Res D} (M : MeB X.prog X.w X.K X.mg X.base CX k (He.ga X.K c) "__init__" ps (spL X.K n f)) (hmk : PySem.W.makesIn X.K (He.ga X.K c) = true) (hkc : PySem.W.keepIn X.K (.ref (He.ga X.K c)) = true) (hm : X.mg x = some (.ref (He.ga X.K c))) (hr : Room (k + 1) X.A) (hx : Passes CX X E) (ha : EvA X E (e :: es) gs)
    (hg : Gl X x := by rfl) (hdb : (x == ("__debug__" : Str)) = false := by decide)
    (he : starEach (e :: es) X.env = (false, eval e X.env) :: starEach es X.env := by rfl) (hpl : (backTo pos (starEach es X.env)).any (·.1) = false := by rfl) :
    Ev X E (.Call (.Name x p) (e :: es) [] pos) (gMk c n f gs) := pe_imp (pe_mk M hmk hkc hm hr hx ha hg hdb he hpl) fun σ H Q ⟨S, F, ρ, R, v, h⟩ => by
  refine ⟨S, F, ρ, R, v, Wp.bind h fun vs S1 F1 H1 ds R1 e1 c1 rx h1 => fun x dx hx hd hne => ?_⟩
  rw [List.append_nil]
  split at h1
  · rename_i hn
    have hlen := c1.len
    refine ⟨S1 ++ [x], F1, R1 ++ [.ins c []], R1.length, x, vs, ds, rfl, by rw [List.getElem?_append_right (by omega)]; simp [hlen], ?_, c1.snoc e1.fh hx hd hne, rx, hn, ?_⟩
    · exact fun b u q => by
        have q' := e1.fh b u q
        rw [upd_ne (ne_of_none q' hx), upd_ne (ne_of_none q' hd)]; exact q'
    cases q : f R1.length ds (R1 ++ [.ins c []]) with
    | bad => rw [q] at h1; exact h1
    | exc ec fs R2 =>
      rw [q] at h1
      simp only [mkEnd] at h1
      split at h1
      · rename_i hl2
        intro d S2 F2 H2 e2 c2 hx2
        obtain ⟨g1, g2, g3, g4, g5, g6⟩ := ext_snoc hx hd e2
        have hS2 := prefix_len e2.s (by rw [c2.len, hl2, hlen])
        subst hS2
        have hS1 : ∀ b ∈ S1, F2 b = none := fun b hb => (c2.has (List.mem_append_left _ hb)).1
        refine h1 d S1 F2 H2 ⟨List.prefix_refl _, g2, g3, g4, g5, g6, fun b z1 z2 => absurd z1 z2⟩ (c2.drop (.refl _) hS1) ?_
        cases hx2 with
        | no => exact .no
        | at_ a1 a2 a3 => exact .at_ a1 a2 a3
      · exact h1.elim
    | ok d R2 =>
      rw [q] at h1
      cases d with
      | non =>
        simp only [mkEnd] at h1
        split at h1
        · rename_i c' fs hlast
          split at h1
          · rename_i hc
            obtain ⟨hl2, rfl⟩ := hc
            intro b S2 F2 H2 e2 c2 rb
            cases rb
            refine ⟨rfl, ?_⟩
            obtain ⟨g1, g2, g3, g4, g5, g6⟩ := ext_snoc hx hd e2
            have hS2 := prefix_len e2.s (by rw [c2.len, hl2, hlen])
            subst hS2
            have hR2 : R2[S1.length]? = some (.ins c' fs) := by
              rw [List.getLast?_eq_getElem?] at hlast
              rw [← hlast, hl2, hlen]; rfl
            obtain ⟨n1, o, n3, n4⟩ := c2.at_ S1.length x (.ins c' fs) (by rw [List.getElem?_append_right (Nat.le_refl _)]; simp) hR2
            have hxS : x ∉ S1 := c1.fresh hx
            have hS1 : ∀ b ∈ S1, (upd F2 x o) b = none := fun b hb => by
              have hbx : b ≠ x := fun z => hxS (by rw [← z]; exact hb)
              rw [upd_ne hbx]; exact (c2.has (List.mem_append_left _ hb)).1
            refine h1 _ S1 (upd F2 x o) H2 ⟨List.prefix_refl _, ?_, ?_, g4, g5, ?_, fun b z1 z2 => absurd z1 z2⟩ (c2.drop (same_upd n1) hS1) ((n4.mono (same_upd n1)).rep upd_same)
            · exact fun b u z => by rw [upd_ne (ne_of_none (g2 b u z) n1)]; exact g2 b u z
            · exact fun b u z => by
                by_cases hb : b = x
                · subst hb; rw [upd_same] at z; cases z; exact n3
                · rw [upd_ne hb] at z; exact g3 b u z
            · exact fun b u z1 z2 => by rw [upd_ne (ne_of_none z1 hx)]; exact g6 b u z1 z2
          · exact h1.elim
        · exact h1.elim
      | _ => exact h1.elim
  · exact h1.elim
/-! ### fields of a mutable instance -/
def putFD (f : Str) (v : D) : List (Str × D) → List (Str × D)
  | [] => [(f, v)]
  | (g, x) :: r => if g = f then (g, v) :: r else (g, x) :: putFD f v r
theorem putF_rep {K : PySem.W.Frag} {F : Hp} {f : Str} {v : V} {d : D} (hv : Rep K F v d) : ∀ {fs : List (Str × V)} {gs : List (Str × D)}, RepK K F fs gs → RepK K F (putF f v fs) (putFD f d gs)
  | [], [], _ => ⟨rfl, .cons hv .nil⟩
  | [], _ :: _, r => by have := r.len; simp at this
  | _ :: _, [], r => by have := r.len; simp at this
  | (a, x) :: fs, (b, y) :: gs, r => by
    obtain ⟨⟨h1, h2⟩, h3⟩ := RepK.cons_iff.mp r
    have h1 : a = b := h1
    subst h1
    unfold putF putFD
    by_cases e : a = f
    · rw [if_pos e, if_pos e]; exact RepK.cons_iff.mpr ⟨⟨rfl, hv⟩, h3⟩
    · rw [if_neg e, if_neg e]; exact RepK.cons_iff.mpr ⟨⟨rfl, h2⟩, putF_rep hv h3⟩
/-- x.f = e, x a slot with a mutable instance of the class c -/
def gStF (m : Md) (own : List Nat) (i : Nat) (c f : Str) (g : G) : GS := fun ρ R => (g (see m own ρ) R).out fun d R1 => if okM m d R1 then match (hide own ρ)[i]? with
  | some (some (.loc l)) => match R1[l]? with
    | some (.ins c' fs) => if c' = c ∧ fs.length < 1000 then .nx ρ (R1.set l (.ins c (putFD f d fs))) else .bad
    | _ => .bad
  | _ => .bad
  else .bad
theorem Cells.set {K : PySem.W.Frag} {S : List Addr} {F H : Hp} {R : Rs} (cc : Cells K S F H R) {l : Nat} {a : Addr} {o : HO} {d : D} (ha : S[l]? = some a) (r : RepO K F o d) : Cells K S F (L2.upd H a o) (R.set l d) := by
  refine ⟨by simp [cc.len], fun i b d' h1 h2 => ?_, cc.nd⟩
  by_cases e : l = i
  · subst e
    rw [ha] at h1
    cases h1
    rw [List.getElem?_set] at h2
    simp only [if_true] at h2
    split at h2
    · cases h2
      exact ⟨(cc.has (List.mem_of_getElem? ha)).1, _, upd_same, r⟩
    · cases h2
  · rw [List.getElem?_set_ne e] at h2
    obtain ⟨n, u, h3, h4⟩ := cc.at_ i b d' h1 h2
    have hne : b ≠ a := fun z => by
      obtain ⟨hl1, e1⟩ := List.getElem?_eq_some_iff.mp ha
      obtain ⟨hl2, e2⟩ := List.getElem?_eq_some_iff.mp h1
      exact e ((List.getElem_inj cc.nd).mp (e1.trans (z.symm.trans e2.symm)))
    exact ⟨n, u, by rw [upd_ne hne]; exact h3, h4⟩
theorem SIn.putC {K : PySem.W.Frag} {S0 S : List Addr} {F0 H0 F H : Hp} {ρ : PEnv} {R : Rs} {σ : L2.St} (s : SIn K S0 F0 H0 own ρ R σ S F H) {l : Nat} {a : Addr} {o : HO} {d : D} (ha : S[l]? = some a) (r : RepO K F o d) : SIn K S0 F0 H0 own ρ (R.set l d) σ S F (upd H a o) := by
  have hF : F a = none := (s.cells.has (List.mem_of_getElem? ha)).1
  have haS := List.mem_of_getElem? ha
  refine ⟨⟨s.ext.s, s.ext.f, fun b u e => by rw [upd_ne (ne_of_none e hF)]; exact s.ext.fh b u e, fun b u e hb => ?_, fun b u e => ?_, s.ext.nw, s.ext.sn⟩, s.cells.set ha r, s.sh, fun i hi d' h => ?_, s.ap, s.len⟩
  · have hne : b ≠ a := fun z => by
      have := s.ext.sn a haS (by rw [← z]; exact hb)
      rw [← z, e] at this; cases this
    rw [upd_ne hne]; exact s.ext.fr b u e hb
  · by_cases hb : b = a
    · subst hb; exact ⟨o, upd_same⟩
    · rw [upd_ne hb]; exact s.ext.th b u e
  · obtain ⟨v, h1, b, o2, rfl, h3, h4, h5, h6, h7⟩ := s.ow i hi d' h
    have hne : b ≠ a := fun z => h6 (by rw [z]; exact haS)
    exact ⟨_, h1, b, o2, rfl, by rw [upd_ne hne]; exact h3, h4, h5, h6, h7⟩
theorem st_stF (m : Md) {i : Nat} {c f : Str} {pos' : Pos} (cl : Cls X.K (He.ga X.K c)) (hn : NoAttr X.K (He.ga X.K c) f) (ho : PE X o (tVar i)) (he : Ev X E e g) (hs : swapsWith e (some (.Attribute o f pos')) pos.line X.env = pure false := by rfl) :
    Stm X E own own ol (.Assign [.Attribute o f pos'] e pos) (gStF m own i c f g) := ps_imp (ps_fld ho he hs) fun Dn σ H ⟨S0, F0, H0, ρ, R, s, h⟩ => by
  refine see_wp rfl s h fun v d R1 S F S1 F1 H1 s ef eg c r _ h1 => ?_
  split at h1
  · rename_i hc
    obtain ⟨F2, s2, r2⟩ := s.seen ef eg c r hc
    split at h1
    · rename_i l hl
      obtain ⟨a, q1, q2⟩ := loc_get s2.view hl
      split at h1
      · rename_i c' fs hfs
        split at h1
        · rename_i hc2
          obtain ⟨rfl, hl2⟩ := hc2
          obtain ⟨n1, o, n3, n4⟩ := s2.cells.at_ l a _ q2 hfs
          cases n4 with
          | @ins dx _ fs' _ e1 e2 =>
          have rk : RepK X.K F2 fs' fs := ⟨e1, e2⟩
          have z := putF_rep (f := f) r2 rk
          refine ⟨_, q1, a, _, _, fs', rfl, n3, cl, hn, by rw [rk.len]; exact hl2, h1 _ _ ⟨_, _, s2.putC q2 (.ins z.1 z.2)⟩⟩
        · exact h1.elim
      · exact h1.elim
    · exact h1.elim
  · exact h1.elim
/-- x.f, x a slot with a mutable instance -/
def gFldL (i : Nat) (c f : Str) : G := fun ρ R => match ρ[i]? with
  | some (some (.loc l)) => match R[l]? with
    | some (.ins c' fs) => if c' = c then match fs.lookup f with
      | some v => .ok v R
      | none => .bad
      else .bad
    | _ => .bad
  | _ => .bad
theorem ev_fldL {i : Nat} {c f : Str} (cl : Cls X.K (He.ga X.K c)) (hn : NoAttr X.K (He.ga X.K c) f) (ho : PE X e (tVar i)) (hb : attributeBase e f X.env (eval e X.env) = eval e X.env := by rfl) : Ev X E (.Attribute e f pos) (gFldL i c f) := pe_imp (pe_fld ho hb) fun σ H Q ⟨S, F, ρ, R, v, h⟩ => by
  unfold gFldL at h
  split at h
  · rename_i l hl
    obtain ⟨a, q1, q2⟩ := loc_get v hl
    split at h
    · rename_i c' fs hfs
      split at h
      · rename_i hc
        subst hc
        split at h
        · rename_i u hu
          obtain ⟨n1, o, n3, n4⟩ := v.cells.at_ l a _ q2 hfs
          cases n4 with
          | ins e1 e2 =>
          obtain ⟨w, h2, h3⟩ := lookup_rep e1 e2 hu
          exact ⟨_, q1, a, _, _, _, w, rfl, n3, cl, hn, h2, h.now v.fh v.cells h3⟩
        · exact h.elim
      · exact h.elim
    · exact h.elim
  · exact h.elim
end
end Pv

namespace Sr
open PySem PySem.Spec PyProof.Rows L2
/-! ### list(range(a, b, -1)) -/
def rgD (a : Int) (n : Nat) : List V := (List.range n).map fun i => V.int (a - (i : Nat))
def tLstRg3 (ta : TA) : TE := fun σ H Q => ta σ H fun vs H1 => ∃ i j : Int, vs = [.int i, .int j, .int (-1)] ∧ RgOk i j ∧ RgOk j i ∧ ∀ q, H1 q = none → Q (.ref q) (upd H1 q (.lst (rgD i (i - j).toNat)))
theorem vals_rgD {a : Int} {n : Nat} {acc : Array Value} (h : ItemsOf (fun i v => ∃ t, v = .int (a + i * (-1)) t) acc n) : Vals (rgD a n) acc.toList := by
  have hl : acc.toList.length = n := by rw [Array.length_toList]; exact h.1
  unfold rgD
  rw [← hl]
  refine vals_of_get acc.toList _ fun j u hj => ?_
  obtain ⟨t, rfl⟩ := h.2 j u (by rw [← hj, Array.getElem?_toList])
  exact ⟨t, by congr 1; omega⟩
theorem pe_listRg3 {X : Cx} {a b c : Expr} {ta : TA} {p q pos rpos : Pos} (hc : X.calm = true) (hg : Gl X "list") (hm : X.mg "list" = none) (hg2 : Gl X "range") (hm2 : X.mg "range" = none) (ha : PA X [a, b, c] ta)
    (na : starEach [.Call (.Name "range" q) [a, b, c] [] rpos] X.env = (false, eval (.Call (.Name "range" q) [a, b, c] [] rpos) X.env) :: starEach [] X.env := by rfl)
    (hs : starEach [a, b, c] X.env = (false, eval a X.env) :: starEach [b, c] X.env := by rfl) (hpl : (backTo rpos (starEach [b, c] X.env)).any (·.1) = false := by rfl) :
    PE X (.Call (.Name "list" p) [.Call (.Name "range" q) [a, b, c] [] rpos] [] pos) (tLstRg3 ta) := by
  constructor
  intro pins s σ H Q I h
  refine Call_ (ld_blt I hg hm boot_list (PyProof.Rows.callWith_type1 (args_cons (Call_ (ld_blt I hg2 hm2 boot_range (PyProof.Rows.callWith_type1 (thn (ha.run rpos pins s σ H _ I h) fun us s1 hh => ?_) hs hpl))) na) na))
  obtain ⟨vs, H1, I1, rv, i, j, e, ok, ok2, hk⟩ := hh
  subst e
  cases rv with
  | cons r1 rv =>
  cases rv with
  | cons r2 rv =>
  cases rv with
  | cons r3 rv =>
  cases rv
  obtain ⟨t1, rfl⟩ := r1
  obtain ⟨t2, rfl⟩ := r2
  obtain ⟨t3, rfl⟩ := r3
  obtain ⟨b1, b2, b3, b4, b5⟩ := ok2
  obtain ⟨z0, z1, z2, z3⟩ := RgC.neg (i := i) (j := j) b3 b4 b1 b2
  refine call_range_3 z0 ?_ (.inl (PyProof.noPylong_small z1))
  refine args_nil ?_
  have J : Inv X pins σ H1 { s1 with heap := s1.heap.push { cls := .type "range", data := .fields #[.int i t1, .int j t2, .int (-1) t3] } } := I1.kept (t' := s1.toks) fun b o e => Heap.get?_push_of_some _ e
  refine call_list_range (n := (i - j).toNat) (J.ok.hd hc) (IsRange.new ..) z2 z3 b5 fun h' tk acc c' hkp e' hi => ?_
  refine ⟨.ref (s1.heap.push { cls := .type "range", data := .fields #[.int i t1, .int j t2, .int (-1) t3] }).objs.size, _, J.laid hkp (Nat.le_refl _) (show ObjOk X.prog X.w _ _ _ (.lst (rgD i (i - j).toNat)) from ⟨?_, acc.toList, c', vals_rgD hi, ?_⟩), rfl, hk _ (J.hok.fresh (Nat.le_refl _))⟩
  · unfold rgD; rw [List.length_map, List.length_range, sizeLine_eq]; omega
  · rw [Array.toArray_toList]; exact e'
end Sr
namespace Pv
open PySem PySem.Spec PyProof.Rows L2 Sr
def rgOkB (a b : Int) : Bool := decide (-(2 ^ 62) ≤ a) && (decide (a < 2 ^ 62) && (decide (-(2 ^ 62) ≤ b) && (decide (b < 2 ^ 62) && decide ((b - a).toNat ≤ 2 ^ 24))))
theorem rgOkB_ok {a b : Int} (h : rgOkB a b = true) : RgOk a b := by
  simp only [rgOkB, Bool.and_eq_true, decide_eq_true_eq] at h
  exact ⟨h.1, h.2.1, h.2.2.1, h.2.2.2.1, h.2.2.2.2⟩
def dRange : List D → Rs → Res D := fun ds R => match ds with
  | [.int b] => if rgOkB 0 b then .ok (.lst (rngD 0 b.toNat)) R else .bad
  | [.int a, .int b] => if rgOkB a b then .ok (.lst (rngD a (b - a).toNat)) R else .bad
  | _ => .bad
def dRange3 : List D → Rs → Res D := fun ds R => match ds with
  | [.int a, .int b, .int (-1)] => if rgOkB a b && rgOkB b a then .ok (.lst ((List.range (a - b).toNat).map fun i => .int (a - (i : Nat)))) R else .bad
  | _ => .bad
section
variable {X : Cx} {E : XK} {a b c e tg : Expr} {es : List Expr} {ga gb g : G} {gs : GA} {pos p q rpos : Pos}
theorem reps_rng {K : PySem.W.Frag} {F : Hp} (f : Nat → Int) : ∀ l : List Nat, Reps K F (l.map fun i => V.int (f i)) (l.map fun i => D.int (f i))
  | [] => .nil
  | n :: r => .cons (.int _) (reps_rng f r)
theorem evf_rg1 (hc : X.calm = true) (hg : Gl X "list") (hm : X.mg "list" = none) (hg2 : Gl X "range") (hm2 : X.mg "range" = none) (ha : Ev X E a ga)
    (na : starEach [a] X.env = (false, eval a X.env) :: starEach [] X.env := by rfl) (nr : starEach [.Call (.Name "range" q) [a] [] rpos] X.env = (false, eval (.Call (.Name "range" q) [a] [] rpos) X.env) :: starEach [] X.env := by rfl) :
    EvF X E (.Call (.Name "list" p) [.Call (.Name "range" q) [a] [] rpos] [] pos) (gCB dRange (gCons ga gNil)) := pe_imp (pe_listRg hc hg hm (prg_1 hg2 hm2 ha na) nr) fun σ H Q ⟨S, F, ρ, R, v, h⟩ => by
  have e0 : gCB dRange (gCons ga gNil) ρ R = (ga ρ R).bind fun x R1 => dRange [x] R1 := by unfold gCB gCons gNil; cases ga ρ R <;> rfl
  rw [e0] at h
  refine ⟨S, F, ρ, R, v, Wf.bind h fun x S1 F1 H1 dx R1 e1 c1 rx h1 => ?_⟩
  cases dx with
  | int n =>
    cases rx
    simp only [dRange] at h1
    split at h1
    · rename_i ok
      refine ⟨n, rfl, rgOkB_ok ok, fun p hp => ?_⟩
      have e : rgV 0 n = (List.range n.toNat).map fun i => V.int (0 + (i : Nat)) := by unfold rgV; simp
      rw [e]
      exact h1.new e1.fh c1 (.lst (reps_rng (fun i => 0 + (i : Nat)) _)) hp
    · exact h1.elim
  | _ => exact h1.elim
theorem evf_rg2 (hc : X.calm = true) (hg : Gl X "list") (hm : X.mg "list" = none) (hg2 : Gl X "range") (hm2 : X.mg "range" = none) (ha : Ev X E a ga) (hb : Ev X E b gb)
    (na : starEach [a, b] X.env = (false, eval a X.env) :: starEach [b] X.env := by rfl) (nb : starEach [b] X.env = (false, eval b X.env) :: starEach [] X.env := by rfl) (hp : (backTo rpos (starEach [b] X.env)).any (·.1) = false := by rfl)
    (nr : starEach [.Call (.Name "range" q) [a, b] [] rpos] X.env = (false, eval (.Call (.Name "range" q) [a, b] [] rpos) X.env) :: starEach [] X.env := by rfl) :
    EvF X E (.Call (.Name "list" p) [.Call (.Name "range" q) [a, b] [] rpos] [] pos) (gCB dRange (gCons ga (gCons gb gNil))) := pe_imp (pe_listRg hc hg hm (prg_2 hg2 hm2 ha hb na nb hp) nr) fun σ H Q ⟨S, F, ρ, R, v, h⟩ => by
  have e0 : gCB dRange (gCons ga (gCons gb gNil)) ρ R = (ga ρ R).bind fun x R1 => (gb ρ R1).bind fun y R2 => dRange [x, y] R2 := by
    unfold gCB gCons gNil
    cases ga ρ R with
    | ok x R1 => simp only [Res.bind_ok]; cases gb ρ R1 <;> rfl
    | exc c fs R => rfl
    | bad => rfl
  rw [e0] at h
  refine ⟨S, F, ρ, R, v, Wf.bind h fun x S1 F1 H1 dx R1 e1 c1 rx h1 => ?_⟩
  refine ⟨S1, F1, ρ, R1, v.ext e1 c1, Wf.bind h1 fun y S2 F2 H2 dy R2 e2 c2 ry h2 => ?_⟩
  unfold dRange at h2
  split at h2
  · rename_i heq; cases heq
  · rename_i i j heq
    cases heq
    cases rx
    cases ry
    split at h2
    · rename_i ok
      exact ⟨i, j, rfl, rfl, rgOkB_ok ok, fun p hp => h2.new e2.fh c2 (.lst (reps_rng (fun k => i + (k : Nat)) _)) hp⟩
    · exact h2.elim
  · exact h2.elim
theorem evf_rg3 (hc : X.calm = true) (hg : Gl X "list") (hm : X.mg "list" = none) (hg2 : Gl X "range") (hm2 : X.mg "range" = none) (ha : EvA X E [a, b, c] gs)
    (na : starEach [.Call (.Name "range" q) [a, b, c] [] rpos] X.env = (false, eval (.Call (.Name "range" q) [a, b, c] [] rpos) X.env) :: starEach [] X.env := by rfl)
    (hs : starEach [a, b, c] X.env = (false, eval a X.env) :: starEach [b, c] X.env := by rfl) (hpl : (backTo rpos (starEach [b, c] X.env)).any (·.1) = false := by rfl) :
    EvF X E (.Call (.Name "list" p) [.Call (.Name "range" q) [a, b, c] [] rpos] [] pos) (gCB dRange3 gs) := pe_imp (pe_listRg3 hc hg hm hg2 hm2 ha na hs hpl) fun σ H Q ⟨S, F, ρ, R, v, h⟩ => by
  refine ⟨S, F, ρ, R, v, ?_⟩
  unfold gCB at h
  cases q : gs ρ R with
  | ok ds R1 =>
    rw [q] at h
    intro vs S1 F1 H1 e1 c1 rx
    have h1 : Wf X.K E S F H (dRange3 ds R1) Q := h
    replace h1 := h1.ext e1
    unfold dRange3 at h1
    split at h1
    · cases rx with
      | cons r1 rx =>
      cases rx with
      | cons r2 rx =>
      cases rx with
      | cons r3 rx =>
      cases rx
      cases r1
      cases r2
      cases r3
      split at h1
      · rename_i i j ok
        simp only [Bool.and_eq_true] at ok
        exact ⟨i, j, rfl, rgOkB_ok ok.1, rgOkB_ok ok.2, fun p hp => h1.new e1.fh c1 (.lst (reps_rng (fun k => i - (k : Nat)) _)) hp⟩
      · exact h1.elim
    · exact h1.elim
  | exc c fs R1 => rw [q] at h; exact h
  | bad => rw [q] at h; exact h
/-! ### targets of lists; enumerate, zip -/
theorem tg_lst {K : PySem.W.Frag} {vs : List Nat} {n : Nat} {ts : TGs} {U : TDs} (h2 : TgsD K ts U vs) : TgD K (L2.gLst K n ts) (dGLst n U) vs := fun F H v d ρ0 σ0 σ ρ ρ' Q hs r h u k => by
  unfold dGLst at h
  split at h
  · split at h
    · rename_i hl
      cases r with
      | lst hf rs => exact ⟨_, _, rfl, SqL.of (hs _ _ hf), by rw [rs.length]; exact hl, h2 F H _ _ ρ0 σ0 σ _ _ _ hs rs h u k⟩
    · cases h
  · cases h
/-- pairs that are made turn by turn -/
theorem walkD_pair {K : PySem.W.Frag} {F : Hp} {J : It} {n : Nat} {fx fy : Nat → Option V} {ds : List D} (hl : ds.length = n) (w : Walk J n (fun H => Same F H) (YPair fx fy))
    (hr : ∀ i d x y, ds[i]? = some d → fx i = some x → fy i = some y → ∃ dx dy, d = .tup [dx, dy] ∧ Rep K F x dx ∧ Rep K F y dy) : WalkD K F J ds := by
  subst hl
  refine ⟨_, w, fun i d H x H2 F1 hd h1 h2 y => ?_⟩
  obtain ⟨T, u, v, rfl, hT, rfl, hx, hy⟩ := y
  obtain ⟨dx, dy, rfl, rx, ry⟩ := hr i d u v hd hx hy
  exact ⟨same_upd hT, upd F1 T (.tup [u, v]), fun S => .new h2 hT, .tup upd_same (.cons ((rx.mono h1).mono (same_upd (h2.free hT))) (.cons ((ry.mono h1).mono (same_upd (h2.free hT))) .nil))⟩
def enD (ds : List D) : List D := (List.range ds.length).zipWith (fun i d => .tup [.int (i : Nat), d]) ds
theorem enD_get (ds : List D) (i : Nat) : (enD ds)[i]? = (ds[i]?).map fun d => .tup [.int (i : Nat), d] := by
  unfold enD
  rw [List.getElem?_zipWith]
  by_cases h : i < ds.length
  · rw [List.getElem?_range h, List.getElem?_eq_getElem h]; rfl
  · rw [List.getElem?_eq_none (by simpa using h), List.getElem?_eq_none (by omega)]; rfl
theorem enD_len (ds : List D) : (enD ds).length = ds.length := by simp [enD]
def enumL : List D → Rs → Res (List D) := fun ds R => match ds with
  | [.lst xs] => .ok (enD xs) R
  | _ => .bad
def enumT : List D → Rs → Res (List D) := fun ds R => match ds with
  | [.tup xs] => .ok (enD xs) R
  | [.arm xs] => .ok (enD xs) R
  | _ => .bad
theorem en_rep {K : PySem.W.Frag} {F : Hp} {vs : List V} {ds : List D} (r : Reps K F vs ds) : ∀ i d x y, (enD ds)[i]? = some d → some (V.int (i : Nat)) = some x → vs[i]? = some y → ∃ dx dy, d = .tup [dx, dy] ∧ Rep K F x dx ∧ Rep K F y dy := fun i d x y h1 h2 h3 => by
  cases h2
  obtain ⟨d', h4, h5⟩ := r.getV h3
  rw [enD_get, h4] at h1
  cases h1
  exact ⟨_, _, rfl, .int _, h5⟩
theorem evi_enum {elts : List Expr} {kk : Nat} {tpos : Pos} (hg : Gl X "enumerate") (hm : X.mg "enumerate" = none) (ha : EvA X E [e] gs) (hs : starEach [e] X.env = [(false, eval e X.env)] := by rfl) : EvI X E (.Tuple elts kk tpos) (.Call (.Name "enumerate" p) [e] [] pos) (gItA enumL gs) := pi_imp (pi_enum hg hm ha hs) fun σ H Q ⟨S, F, ρ, R, v, h⟩ => by
  refine ⟨S, F, ρ, R, v, Wp.bind h fun x S1 F1 H1 dx R1 e1 c1 rx h1 => ?_⟩
  unfold enumL at h1
  split at h1
  · cases rx with
    | cons r rr =>
    cases rr
    cases r with
    | lst hf rs =>
    refine ⟨_, _, rfl, SqL.of (e1.fh _ _ hf), h1.now e1.fh c1 (walkD_pair (by rw [enD_len]; exact rs.length.symm) (walk_enum.mono (fun H h => SqL.of (h _ _ hf)) fun _ _ _ _ _ _ y => y) (en_rep rs))⟩
  · exact h1.elim
theorem evi_enumT {elts : List Expr} {kk : Nat} {tpos : Pos} (hg : Gl X "enumerate") (hm : X.mg "enumerate" = none) (ha : EvA X E [e] gs) (hs : starEach [e] X.env = [(false, eval e X.env)] := by rfl) : EvI X E (.Tuple elts kk tpos) (.Call (.Name "enumerate" p) [e] [] pos) (gItA enumT gs) := pi_imp (pi_enumT hg hm ha hs) fun σ H Q ⟨S, F, ρ, R, v, h⟩ => by
  refine ⟨S, F, ρ, R, v, Wp.bind h fun x S1 F1 H1 dx R1 e1 c1 rx h1 => ?_⟩
  unfold enumT at h1
  split at h1
  · cases rx with
    | cons r rr =>
    cases rr
    cases r with
    | tup hf rs =>
    refine ⟨_, _, rfl, SqT.of (e1.fh _ _ hf), h1.now e1.fh c1 (walkD_pair (by rw [enD_len]; exact rs.length.symm) (walk_enumT.mono (fun H h => SqT.of (h _ _ hf)) fun _ _ _ _ _ _ y => y) (en_rep rs))⟩
  · cases rx with
    | cons r rr =>
    cases rr
    cases r with
    | arm hf _ rs =>
    refine ⟨_, _, rfl, .inl (.inr ⟨_, e1.fh _ _ hf⟩), h1.now e1.fh c1 (walkD_pair (by rw [enD_len]; exact rs.length.symm) (walk_enumT.mono (fun H h => .inl (.inr ⟨_, h _ _ hf⟩)) fun _ _ _ _ _ _ y => y) (en_rep rs))⟩
  · exact h1.elim
end
end Pv

namespace Pv
open PySem PySem.Spec PyProof.Rows L2 Sr
/-! ### zip -/
def zipD : List D → Rs → Res (List D) := fun ds R => match ds with
  | [.tup xs, .tup ys] => .ok (xs.zipWith (fun a b => .tup [a, b]) ys) R
  | [.lst xs, .lst ys] => .ok (xs.zipWith (fun a b => .tup [a, b]) ys) R
  | _ => .bad
section
variable {X : Cx} {E : XK} {a b c e e2 tg : Expr} {es : List Expr} {ga gb g : G} {gs : GA} {pos p q rpos : Pos}
theorem zip_rep {K : PySem.W.Frag} {F : Hp} {vs ws : List V} {ds es : List D} (r : Reps K F vs ds) (r2 : Reps K F ws es) : ∀ (i : Nat) (d : D) (x y : V), (ds.zipWith (fun a b => D.tup [a, b]) es)[i]? = some d → vs[i]? = some x → ws[i]? = some y → ∃ dx dy, d = D.tup [dx, dy] ∧ Rep K F x dx ∧ Rep K F y dy := fun i d x y h1 h2 h3 => by
  obtain ⟨d1, g1, g2⟩ := r.getV h2
  obtain ⟨d2, g3, g4⟩ := r2.getV h3
  rw [List.getElem?_zipWith, g1, g3] at h1
  cases h1
  exact ⟨_, _, rfl, g2, g4⟩
theorem evi_zip {elts : List Expr} {kk : Nat} {tpos : Pos} (hg : Gl X "zip") (hm : X.mg "zip" = none) (ha : EvA X E [e, e2] gs) (hs : starEach [e, e2] X.env = (false, eval e X.env) :: starEach [e2] X.env := by rfl) (hpl : (backTo pos (starEach [e2] X.env)).any (·.1) = false := by rfl) :
    EvI X E (.Tuple elts kk tpos) (.Call (.Name "zip" p) [e, e2] [] pos) (gItA zipD gs) := pi_imp (RZ.pi_zipA hg hm ha hs hpl) fun σ H Q ⟨S, F, ρ, R, v, h⟩ => by
  refine ⟨S, F, ρ, R, v, Wp.bind h fun x S1 F1 H1 dx R1 e1 c1 rx h1 => ?_⟩
  unfold zipD at h1
  split at h1
  · rename_i xs ys
    cases rx with
    | cons r rr =>
    cases rr with
    | cons r2 rr =>
    cases rr
    cases r with
    | tup hf rs =>
    cases r2 with
    | tup hf2 rs2 =>
    refine ⟨_, _, _, _, rfl, .inr ⟨SqT.of (e1.fh _ _ hf), SqT.of (e1.fh _ _ hf2), h1.now e1.fh c1 (walkD_pair (n := min xs.length ys.length) (by simp) ((walk_zipT (n := min xs.length ys.length) (by rw [rs.length, rs2.length])).mono (fun H h => ⟨SqT.of (h _ _ hf), SqT.of (h _ _ hf2)⟩) fun _ _ _ _ _ _ y => y) (zip_rep rs rs2))⟩⟩
  · rename_i xs ys
    cases rx with
    | cons r rr =>
    cases rr with
    | cons r2 rr =>
    cases rr
    cases r with
    | lst hf rs =>
    cases r2 with
    | lst hf2 rs2 =>
    refine ⟨_, _, _, _, rfl, .inl ⟨SqL.of (e1.fh _ _ hf), SqL.of (e1.fh _ _ hf2), h1.now e1.fh c1 (walkD_pair (n := min xs.length ys.length) (by simp) ((walk_zip (n := min xs.length ys.length) (by rw [rs.length, rs2.length])).mono (fun H h => ⟨SqL.of (h _ _ hf), SqL.of (h _ _ hf2)⟩) fun _ _ _ _ _ _ y => y) (zip_rep rs rs2))⟩⟩
  · exact h1.elim
end
/-! ### the source of numbers -/
def stOk : List Int → Bool
  | a :: b :: r => decide (0 ≤ a) && (decide (0 ≤ b) && r.all fun x => decide (0 ≤ x))
  | _ => false
def midB (b : Int) (r : List Int) : Int × List Int := if b = 0 then (match r with | [] => (b, []) | c :: r' => (c, r')) else (b, r)
def below : List Int → Int → Int × List Int
  | a :: b :: r, n => if 0 < (midB b r).1 then ((midB b r).1 % n, a :: (midB b r).1 / n :: (midB b r).2) else (((a * 48271 + 11) % 2147483647 / 64) % n, (a * 48271 + 11) % 2147483647 :: (midB b r).1 :: (midB b r).2)
  | st, _ => (0, st)
theorem stOk_cons {a b : Int} {r : List Int} : stOk (a :: b :: r) = true ↔ 0 ≤ a ∧ 0 ≤ b ∧ ∀ x ∈ r, 0 ≤ x := by
  simp [stOk]
theorem midB_ok {b : Int} {r : List Int} (hb : 0 ≤ b) (hr : ∀ x ∈ r, 0 ≤ x) : 0 ≤ (midB b r).1 ∧ ∀ x ∈ (midB b r).2, 0 ≤ x := by
  unfold midB
  split
  · cases r with
    | nil => exact ⟨hb, by simp⟩
    | cons c r' => exact ⟨hr c (by simp), fun x hx => hr x (by simp [hx])⟩
  · exact ⟨hb, hr⟩
theorem below_ok {st : List Int} {n : Int} (h : stOk st = true) (hn : 0 < n) : 0 ≤ (below st n).1 ∧ (below st n).1 < n ∧ stOk (below st n).2 = true := by
  match st, h with
  | a :: b :: r, h =>
    obtain ⟨ha, hb, hr⟩ := stOk_cons.mp h
    obtain ⟨h1, h2⟩ := midB_ok hb hr
    have e : below (a :: b :: r) n = if 0 < (midB b r).1 then ((midB b r).1 % n, a :: (midB b r).1 / n :: (midB b r).2) else (((a * 48271 + 11) % 2147483647 / 64) % n, (a * 48271 + 11) % 2147483647 :: (midB b r).1 :: (midB b r).2) := rfl
    rw [e]
    by_cases hp : 0 < (midB b r).1
    · rw [if_pos hp]
      exact ⟨Int.emod_nonneg _ (by omega), Int.emod_lt_of_pos _ hn, stOk_cons.mpr ⟨ha, Int.ediv_nonneg h1 (by omega), h2⟩⟩
    · rw [if_neg hp]
      exact ⟨Int.emod_nonneg _ (by omega), Int.emod_lt_of_pos _ hn, stOk_cons.mpr ⟨Int.emod_nonneg _ (by decide), h1, h2⟩⟩
def spBelowX : Sp := fun vs H Q _ => ∃ (d : Addr) (st : List Int) (n : Int), vs = [.ref d, .int n] ∧ H d = some (.lst (st.map V.int)) ∧ stOk st = true ∧ 0 < n ∧ n < 1073741824 ∧ Q (.int (below st n).1) (upd H d (.lst ((below st n).2.map V.int)))
def belowF : Nat → List D → Rs → Res D := fun l ds R => match ds with
  | [.int n] => match R[l]? with
    | some (.lst xs) => match intsOf xs with
      | some st => if stOk st = true ∧ 0 < n ∧ n < 1073741824 then .ok (.int (below st n).1) (R.set l (.lst ((below st n).2.map D.int))) else .bad
      | none => .bad
    | _ => .bad
  | _ => .bad
theorem below_imp {K : PySem.W.Frag} (vs : List V) (H : Hp) (Q : VK) (E : XK) (h : spL K 2 belowF vs H Q E) : spBelowX vs H Q E := by
  obtain ⟨S, F, R, l, a, us, ds, rfl, hl, hs, c, r, hn, h⟩ := h
  unfold belowF at h
  split at h
  · rename_i n
    cases r with
    | cons r rr =>
    cases rr
    cases r
    split at h
    · rename_i xs hx
      split at h
      · rename_i st hst
        split at h
        · rename_i hc
          obtain ⟨n1, o, n3, n4⟩ := c.at_ l a _ hl hx
          cases n4 with
          | lst rs =>
          rw [intsOf_eq hst] at rs
          rw [Reps.of_ints rs] at n3
          refine ⟨a, st, n, rfl, n3, hc.1, hc.2.1, hc.2.2, ?_⟩
          have haS := List.mem_of_getElem? hl
          refine h _ S F _ ⟨List.prefix_refl _, .refl F, fun b u e => by rw [upd_ne (ne_of_none e n1)]; exact hs b u e, fun b u e hb => ?_, fun b u e => ?_, fun _ _ _ z => z, fun b z1 z2 => absurd z1 z2⟩ (c.set hl (.lst (.ints _))) (.int _)
          · have hne : b ≠ a := fun z => hb (by rw [z]; exact haS)
            rw [upd_ne hne]; exact e
          · by_cases hb : b = a
            · subst hb; exact ⟨_, upd_same⟩
            · exact ⟨u, by rw [upd_ne hb]; exact e⟩
        · exact h.elim
      · exact h.elim
    · exact h.elim
  · exact h.elim
@[simp] theorem belowF_eq {st : List Int} {n : Int} (h : stOk st = true) (h0 : 0 < n) (h1 : n < 1073741824) : belowF 0 [.int n] [.lst (st.map D.int)] = .ok (.int (below st n).1) [.lst ((below st n).2.map D.int)] := by
  simp [belowF, h, h0, h1]
/-! ### the law's own def -/
def lawStart (n : Nat) : PEnv := none :: some (.loc 0) :: List.replicate (n - 2) none
def spRandomX (K : PySem.W.Frag) : Sp := fun vs H Q _ => ∃ (a : Addr) (ns : List Int) (n : Int), vs = [.ref a, .int n] ∧ SqL K H a (ns.map V.int) ∧ ns.length ≤ 63 ∧ 0 ≤ n ∧
  ∀ p st H', Same H H' → H p = none → H' p = some (.lst (List.map V.int st)) → stOk st = true → Q (.ref p) H'
theorem law_mk {fa : List He.Fa} {fn : List He.DefD} {gt : List PropD} {ex : PySem.W.Frag → Bool} {K : PySem.W.Frag} {mg : Str → Option Value} {P : Program} {w : World} {base : Heap}
    {N : List Str} {k n : Nat} {salt : Int} {own own' : List Nat} {g : GS} {s0 : Stmt} {rest : List Stmt} (st : Stmt) (S : Say fa fn gt ex K mg) (i j : Nat) (hd : fn[i]? = some ⟨("law", none), "law", "law", defArgs st, defBody st, defScope st, [], []⟩) (hg : fa[j]? = some (.glo "law")) (SC : FnScope N ["_law_script"] (defScope st))
    (hb : ∀ (kV doc pm : Value) (an : Option Addr) (cdv ct : Value) (us : List Value), us.length = (["_law_script"] : List Str).length → bindArgs (PySem.W.fnOf "law" "law" (defArgs st) (defBody st) (defScope st) .none kV doc pm an cdv ct) ⟨us, []⟩ = pure ((["_law_script"] : List Str).zip us))
    (hn : N.length = n) (h2 : 2 ≤ n) (ho : ∀ i ∈ own, 2 ≤ i) (hsp : defBody st = s0 :: rest) (hs : 0 ≤ salt)
    (B0 : ∀ (f : Addr) (cdv : Value) (A : Around) (outer : List Env) (s : Shared) (H : Hp) (E : XK), Room k (A.deeper (envOfC "law" (defScope st) s.heap.objs.size f cdv)) → PS (cxOf CX0 P w K mg base N "law" (defScope st) f cdv A outer s H E).nox s0 (tAsg (tCall (spRandomX K) [] XF (tCons (tVar 0) (tCons (tC (.int salt)) tNil))) (gName 1)))
    (B1 : ∀ (f : Addr) (cdv : Value) (A : Around) (outer : List Env) (s : Shared) (H : Hp) (E : XK), Room k (A.deeper (envOfC "law" (defScope st) s.heap.objs.size f cdv)) → Sts (cxOf CX0 P w K mg base N "law" (defScope st) f cdv A outer s H E).nox XF own own' [] rest g)
    (hlaw : ∀ st, stOk st = true → ∃ R', g (lawStart n) [.lst (st.map D.int)] = .rt (.bl true) R') : Fn P w K mg base CX0 (k + 1) "law" ["_law_script"] (spLaw K) := by
  refine fn_mk st S i j hd hg SC hb (fun vs H Q E h => by obtain ⟨_, _, rfl, _⟩ := h; rfl) fun f cdv A outer s H vs Q E hr h => ?_
  obtain ⟨a, ns, rfl, ha, hl, hk⟩ := h
  rw [hsp]
  refine ⟨_, pss_cons (B0 f cdv A outer s H E hr) (B1 f cdv A outer s H E hr), ?_⟩
  refine ⟨.ref a, ?_, a, ns, salt, rfl, ha, hl, hs, fun p st H' e1 hp hp2 hst => ?_⟩
  · unfold L2.start; rfl
  obtain ⟨R', hR⟩ := hlaw st hst
  have hst2 : (L2.start N [V.ref a]).set 1 (some (.ref p)) = some (.ref a) :: some (.ref p) :: List.replicate (n - 2) none := by
    unfold L2.start
    obtain ⟨m, rfl⟩ : ∃ m, n = m + 2 := ⟨n - 2, by omega⟩
    simp [hn, List.replicate_succ]
  have get : ∀ (i : Nat) (d : D), (lawStart n)[i]? = some (some d) → i = 1 ∧ d = .loc 0 := fun i d h => by
    unfold lawStart at h
    match i with
    | 0 => cases h
    | 1 => cases h; exact ⟨rfl, rfl⟩
    | i + 2 =>
      have := List.mem_of_getElem? (show (List.replicate (n - 2) (none : Option D))[i]? = some (some d) from h)
      simp at this
  refine ⟨[p], fun _ => none, H', lawStart n, [.lst (st.map D.int)], ⟨[p], fun _ => none, ⟨.refl (fun b u z => nomatch z), ⟨rfl, fun i b d h1 h2 => ?_, by simp⟩, fun i d h _ => ?_, fun i hi d h => ?_, fun i hi j hj d d' v h1 => ?_, ?_⟩⟩, ?_⟩
  · match i with
    | 0 =>
      cases h1
      cases h2
      exact ⟨rfl, _, hp2, .lst (.ints _)⟩
    | i + 1 => simp at h1
  · obtain ⟨rfl, rfl⟩ := get i d h
    rw [hst2]
    exact ⟨_, rfl, .inr ⟨0, p, rfl, rfl, rfl⟩⟩
  · obtain ⟨rfl, _⟩ := get i d h
    have := ho 1 hi
    omega
  · obtain ⟨rfl, _⟩ := get i d h1
    have := ho 1 hi
    omega
  · rw [hst2]; unfold lawStart; simp
  · rw [hR]
    intro v S F H e c r
    cases r
    exact hk H
/-- a def whose promise is never asked -/
theorem fn_vac {fa : List He.Fa} {fn : List He.DefD} {gt : List PropD} {ex : PySem.W.Frag → Bool} {K : PySem.W.Frag} {mg : Str → Option Value} {P : Program} {w : World} {base : Heap} {CX : CXT} {N ps : List Str} {sp : Sp} {k : Nat} {x : Str} (st : Stmt) (S : Say fa fn gt ex K mg) (i j : Nat) (hd : fn[i]? = some ⟨(x, none), x, x, defArgs st, defBody st, defScope st, [], []⟩) (hg : fa[j]? = some (.glo x)) (SC : FnScope N ps (defScope st))
    (hb : ∀ (kV doc pm : Value) (an : Option Addr) (cdv ct : Value) (us : List Value), us.length = ps.length → bindArgs (PySem.W.fnOf x x (defArgs st) (defBody st) (defScope st) .none kV doc pm an cdv ct) ⟨us, []⟩ = pure (ps.zip us))
    (hf : ∀ vs H Q E, ¬ sp vs H Q E) : Fn P w K mg base CX (k + 1) x ps sp := by
  obtain ⟨fd, F⟩ := S.c.def_ i hd
  exact ⟨_, fd, S.glo j hg, F.kp, F.bindsN hb, F.ok SC (fun vs H Q E h => absurd h (hf vs H Q E)) fun cdv A outer s H vs Q E hr h => absurd h (hf vs H Q E), F.at_⟩
theorem spP_no {K : PySem.W.Frag} {n : Nat} (vs : List V) (H : Hp) (Q : VK) (E : XK) : ¬ spP K n (fun _ _ => .bad) vs H Q E := fun h => by
  obtain ⟨_, _, _, _, _, _, _, _, h⟩ := h; exact h
theorem spL_no {K : PySem.W.Frag} {n : Nat} (vs : List V) (H : Hp) (Q : VK) (E : XK) : ¬ spL K n (fun _ _ _ => .bad) vs H Q E := fun h => by
  obtain ⟨_, _, _, _, _, _, _, _, _, _, _, _, _, h⟩ := h; exact h
/-! ### a def that touches no mutable cell -/
def pureF (f : List D → Rs → Res D) : List D → Rs → Res D := fun ds R => match f ds [] with
  | .ok d [] => .ok d R
  | .exc c fs [] => .exc c fs R
  | _ => .bad
theorem pureF_ok {f : List D → Rs → Res D} {ds : List D} {d : D} {R : Rs} (h : f ds [] = .ok d []) : pureF f ds R = .ok d R := by simp [pureF, h]
theorem pureF_exc {f : List D → Rs → Res D} {ds : List D} {c : Str} {fs : List (Str × D)} {R : Rs} (h : f ds [] = .exc c fs []) : pureF f ds R = .exc c fs R := by simp [pureF, h]
theorem cells_none {K : PySem.W.Frag} {F H : Hp} : Cells K [] F H [] := ⟨rfl, fun i a d h => by simp at h, by simp⟩
theorem pure_ext {K : PySem.W.Frag} {S S' : List Addr} {F H F' H' : Hp} {R : Rs} (c : Cells K S F H R) (e : Ext [] F H S' F' H') (c' : Cells K S' F' H' []) : Ext S F H S F' H' ∧ Cells K S F' H' R := by
  have hS : S' = [] := List.eq_nil_of_length_eq_zero (by rw [c'.len]; rfl)
  subst hS
  have hH : ∀ b u, H b = some u → H' b = some u := fun b u h => e.fr b u h (by simp)
  exact ⟨⟨List.prefix_refl _, e.f, e.fh, fun b u h _ => hH b u h, e.th, e.nw, fun b h1 h2 => absurd h1 h2⟩, c.len, fun i a d h1 h2 => by
    obtain ⟨n, o, h3, h4⟩ := c.at_ i a d h1 h2
    exact ⟨e.nw a o h3 n, o, hH a o h3, h4.mono e.f⟩, c.nd⟩
theorem pure_imp {K : PySem.W.Frag} {n : Nat} {f : List D → Rs → Res D} (vs : List V) (H : Hp) (Q : VK) (E : XK) (h : spP K n (pureF f) vs H Q E) : spP K n f vs H Q E := by
  obtain ⟨S, F, R, ds, hs, c, r, hl, h⟩ := h
  refine ⟨[], F, [], ds, hs, cells_none, r, hl, ?_⟩
  unfold pureF at h
  split at h
  · rename_i d q
    rw [q]
    intro v S' F' H' e' c' rv
    obtain ⟨e, c2⟩ := pure_ext c e' c'
    exact h v S F' H' e c2 rv
  · rename_i cn fs q
    rw [q]
    intro d S' F' H' e' c' rv
    obtain ⟨e, c2⟩ := pure_ext c e' c'
    refine h d S F' H' e c2 ?_
    cases rv with
    | no => exact .no
    | at_ a1 a2 a3 => exact .at_ a1 a2 a3
  · exact h.elim
theorem pure_ne {f : List D → Rs → Res D} (hf : ∀ ds c fs R, f ds [] ≠ .exc c fs R) : ∀ ds R c fs R', pureF f ds R ≠ .exc c fs R' := fun ds R c fs R' h => by
  unfold pureF at h
  split at h
  · cases h
  · rename_i q; exact hf _ _ _ _ q
  · cases h
theorem _root_.Sr.PrB.imp {P : Program} {w : World} {K : PySem.W.Frag} {mg : Str → Option Value} {base : Heap} {C : Addr} {m : Str} {ps : List Str} {k : Nat} {CX : CXT} {sp sp' : Sp} (F : PrB P w K mg base CX k C m ps sp) (h : ∀ vs H Q E, sp' vs H Q E → sp vs H Q E) : PrB P w K mg base CX k C m ps sp' := by
  obtain ⟨p, g, fd, a, b, c⟩ := F.ex
  exact ⟨p, g, fd, a, b, c.imp h⟩
end Pv

namespace Pv
open PySem PySem.Spec PyProof.Rows L2 Sr Rg
/-! ### comprehensions and loops over typed data -/
theorem lcG_map {α : Type} {T : TD} {ge : G} {ρ : PEnv} {R : Rs} (enc f : α → D) : ∀ {xs : List α}, (∀ x ∈ xs, ∃ ρ1, T (enc x) ρ = some ρ1 ∧ ge ρ1 R = .ok (f x) R) → lcG T gYes ge (xs.map enc) ρ R = .ok (xs.map f) R
  | [], _ => rfl
  | x :: xs, h => by
    obtain ⟨ρ1, h1, h2⟩ := h x (by simp)
    have ih := lcG_map (xs := xs) enc f fun y hy => h y (by simp [hy])
    simp only [List.map_cons, lcG, h1, gYes, Res.bind_ok, h2, ih]
theorem lcG_filter {α : Type} {T : TD} {tt : GT} {ge : G} {ρ : PEnv} {R : Rs} (enc f : α → D) (p : α → Bool) : ∀ {xs : List α}, (∀ x ∈ xs, ∃ ρ1, T (enc x) ρ = some ρ1 ∧ tt ρ1 R = .ok (p x) R ∧ (p x = true → ge ρ1 R = .ok (f x) R)) → lcG T tt ge (xs.map enc) ρ R = .ok ((xs.filter p).map f) R
  | [], _ => rfl
  | x :: xs, h => by
    obtain ⟨ρ1, h1, h2, h3⟩ := h x (by simp)
    have ih := lcG_filter (xs := xs) enc f p fun y hy => h y (by simp [hy])
    cases hp : p x with
    | true =>
      rw [hp] at h2 h3
      simp only [List.map_cons, lcG, h1, h2, Res.bind_ok, h3 rfl, ih, List.filter_cons, hp, if_true]
    | false =>
      rw [hp] at h2
      simp only [List.map_cons, lcG, h1, h2, Res.bind_ok, ih, List.filter_cons, hp]
      simp
/-- a loop whose turns all go on -/
theorem loopG_inv {α : Type} {T : TD} {b : GS} (enc : α → D) (I : List α → PEnv → Rs → Prop) : ∀ {xs : List α} {ρ : PEnv} {R : Rs}, I xs ρ R → (∀ x xs ρ R, I (x :: xs) ρ R → ∃ ρ1, T (enc x) ρ = some ρ1 ∧ ∃ ρ2 R2, (b ρ1 R = .nx ρ2 R2 ∨ b ρ1 R = .ct ρ2 R2) ∧ I xs ρ2 R2) → ∃ ρ2 R2, loopG T b (xs.map enc) ρ R = .nx ρ2 R2 ∧ I [] ρ2 R2
  | [], ρ, R, h, _ => ⟨ρ, R, rfl, h⟩
  | x :: xs, ρ, R, h, k => by
    obtain ⟨ρ1, h1, ρ2, R2, h2, h3⟩ := k x xs ρ R h
    obtain ⟨ρ3, R3, h4, h5⟩ := loopG_inv (xs := xs) enc I h3 k
    refine ⟨ρ3, R3, ?_, h5⟩
    rcases h2 with h2 | h2 <;> simp only [List.map_cons, loopG, h1, h2, h4]
/-! ### arms and rigs as data -/
def prD (p : Int × Int) : D := .tup [.int p.1, .int p.2]
def arD (a : Arms) : D := .arm (a.map prD)
def rigD (a : Arms) : D := .ins "Rig" [("told", arD a)]
def small (x : Int) : Prop := -(2 ^ 64) < x ∧ x < 2 ^ 64
end Pv

namespace Pv
open PySem PySem.Spec PyProof.Rows L2 Sr Rg
/-! ### the meanings, applied -/
section
variable {ρ : PEnv} {R : Rs} {i j n : Nat} {d : D} {f f' : D → D → Rs → Res D} {u : D → Rs → Res D} {h : List D → Rs → Res D} {ga gb gc g : G} {gs : GA} {t t' : GT} {own vs : List Nat} {m : Md} {g1 g2 : GS} {it : GI} {T : TD} {x y z : D} {xs ys ds : List D}
theorem var_ap : gVar i ρ R = match ρ[i]? with
  | some (some d) => if d.isLoc then .bad else .ok d R
  | _ => .bad := rfl
theorem c_ap : gC d ρ R = .ok d R := rfl
theorem op_ap : gOp f ga gb ρ R = (ga ρ R).bind fun x R1 => (gb ρ R1).bind fun y R2 => f x y R2 := rfl
theorem un_ap : gUn u ga ρ R = (ga ρ R).bind u := rfl
theorem b_ap : gB ga ρ R = (ga ρ R).bind bOf := rfl
theorem and_ap : gAnd t t' ρ R = (t ρ R).bind fun b R => match b with
  | true => t' ρ R
  | false => .ok false R := rfl
theorem or_ap : gOr t t' ρ R = (t ρ R).bind fun b R => match b with
  | true => .ok true R
  | false => t' ρ R := rfl
theorem not_ap : gNot t ρ R = (t ρ R).bind fun b R => .ok (!b) R := rfl
theorem if_ap {α : Type} {a b : PEnv → Rs → Res α} : gIf t a b ρ R = (t ρ R).bind fun c R => match c with
  | true => a ρ R
  | false => b ρ R := rfl
theorem andV_ap : gAndV ga gb ρ R = (ga ρ R).bind fun x R => match x with
  | .bl true => gb ρ R
  | .bl false => .ok (.bl false) R
  | _ => .bad := rfl
theorem orV_ap : gOrV ga gb ρ R = (ga ρ R).bind fun x R => match x with
  | .bl true => .ok (.bl true) R
  | .bl false => gb ρ R
  | _ => .bad := rfl
theorem ch_ap : gCh f f' ga gb gc ρ R = (ga ρ R).bind fun x R1 => (gb ρ R1).bind fun y R2 => (f x y R2).bind fun z R3 => match z with
  | .bl true => (gc ρ R3).bind fun w R4 => f' y w R4
  | .bl false => .ok (.bl false) R3
  | _ => .bad := rfl
theorem nil_ap : Pv.gNil ρ R = .ok [] R := rfl
theorem cons_ap : Pv.gCons ga gs ρ R = (ga ρ R).bind fun x R1 => (gs ρ R1).bind fun xs R2 => .ok (x :: xs) R2 := rfl
theorem star_ap : gStar ga gs ρ R = (ga ρ R).bind fun x R1 => (itemsOf x R1).bind fun xs R1 => (gs ρ R1).bind fun ys R2 => .ok (xs ++ ys) R2 := rfl
theorem tup_ap : Pv.gTup gs ρ R = (gs ρ R).bind dTup := rfl
theorem lst_ap : Pv.gLst gs ρ R = (gs ρ R).bind dLst := rfl
theorem arm_ap : gArm gs ρ R = (gs ρ R).bind dArm := rfl
theorem cb_ap : gCB h gs ρ R = (gs ρ R).bind h := rfl
theorem noPart_ap : gNoPart ρ R = .ok none R := rfl
theorem part_ap : gPart g ρ R = (g ρ R).bind fun d R => match d with
  | .int i => .ok (some i) R
  | _ => .bad := rfl
theorem sl_ap {l k : GO} : gSl g l k ρ R = (g ρ R).bind fun x R1 => (l ρ R1).bind fun a R2 => (k ρ R2).bind fun b R3 => dSl x a b R3 := rfl
theorem slL_ap {l k : GO} : gSlL g l k ρ R = (g ρ R).bind fun x R1 => (l ρ R1).bind fun a R2 => (k ρ R2).bind fun b R3 => dSlL x a b R3 := rfl
theorem call_ap : gCall n h gs ρ R = (gs ρ R).bind fun ds R => if ds.length = n then h ds R else .bad := rfl
theorem callL_ap {k : Nat → List D → Rs → Res D} : gCallL i n k gs ρ R = match ρ[i]? with
  | some (some (.loc l)) => (gs ρ R).bind fun ds R1 => if ds.length + 1 = n then k l ds R1 else .bad
  | _ => .bad := rfl
theorem mk_ap {c : Str} {k : Nat → List D → Rs → Res D} : gMk c n k gs ρ R = (gs ρ R).bind fun ds R1 => if ds.length + 1 = n then mkEnd c R1.length (k R1.length ds (R1 ++ [.ins c []])) else .bad := rfl
theorem fld_ap {c f : Str} : gFld c f g ρ R = (g ρ R).bind fun d R1 => match d with
  | .ins c' fs => if c' = c then match fs.lookup f with
    | some v => .ok v R1
    | none => .bad
    else .bad
  | _ => .bad := rfl
theorem prop_ap {c : Str} : gProp c h g ρ R = (g ρ R).bind fun d R1 => match d with
  | .ins c' fs => if c' = c then h [.ins c' fs] R1 else .bad
  | _ => .bad := rfl
theorem meth_ap {c k : Str} : gMeth c k n h g gs ρ R = (g ρ R).bind fun d R1 => match d with
  | .ins c' fs => if c' = c ∧ fs.lookup k = none then (gs ρ R1).bind fun ds R2 => if ds.length + 1 = n then h (.ins c' fs :: ds) R2 else .bad
    else .bad
  | _ => .bad := rfl
theorem callI_ap {c : Str} : gCallI c n h g gs ρ R = (g ρ R).bind fun d R1 => match d with
  | .ins c' fs => if c' = c then (gs ρ R1).bind fun ds R2 => if ds.length + 1 = n then h (.ins c' fs :: ds) R2 else .bad
    else .bad
  | _ => .bad := rfl
theorem get2_ap : gGet2 ga gb gc ρ R = (ga ρ R).bind fun x R1 => match x with
  | .dic kvs => (gb ρ R1).bind fun y R2 => (gc ρ R2).bind fun z R3 => match keyOf y with
    | some k => .ok ((valD kvs k).getD z) R3
    | none => .bad
  | _ => .bad := rfl
theorem dnew_ap : gDNew ρ R = .ok (.dic []) R := rfl
theorem it_ap {k : D → Rs → Res (List D)} : gIt k g ρ R = (g ρ R).bind k := rfl
theorem itA_ap {k : List D → Rs → Res (List D)} : gItA k gs ρ R = (gs ρ R).bind k := rfl
theorem lc_ap : gLc vs it T t g ρ R = (it ρ R).bind fun ds R1 => ((lcG T t g ds (wipeD ρ vs) R1).calm).bind dLst := rfl
theorem yes_ap : gYes ρ R = .ok true R := rfl
/-! statements -/
theorem next_ap : gNext ρ R = .nx ρ R := rfl
theorem seq_ap : gSeq g1 g2 ρ R = match g1 ρ R with
  | .nx ρ1 R1 => g2 ρ1 R1
  | o => o := rfl
theorem set_ap : gSet m own i g ρ R = (g (see m own ρ) R).out fun d R1 => if okM m d R1 && !own.contains i then .nx (ρ.set i (some d)) R1 else .bad := rfl
theorem setO_ap : gSetO m own i g ρ R = (g (see m own ρ) R).out fun d R1 => if okO m d R1 && own.contains i then .nx (ρ.set i (some d)) R1 else .bad := rfl
theorem drop_ap : gDrop m own g ρ R = (g (see m own ρ) R).out fun d R1 => if okR m R1 then .nx ρ R1 else .bad := rfl
theorem ret_ap : gRet g ρ R = (g ρ R).out fun d R1 => .rt d R1 := rfl
theorem retN_ap : gRetN ρ R = .rt .non R := rfl
theorem brk_ap : gBrk ρ R = .bk ρ R := rfl
theorem cnt_ap : gCnt ρ R = .ct ρ R := rfl
theorem never_ap : gNever ρ R = .bad := rfl
theorem ifS_ap : gIfS m own t g1 g2 ρ R = (t (see m own ρ) R).out fun b R1 => if okR m R1 then match b with
  | true => g1 ρ R1
  | false => g2 ρ R1
  else .bad := rfl
theorem aug_ap : gAug m own i f g ρ R = match (hide own ρ)[i]? with
  | some (some (.int x)) => (g (see m own ρ) R).out fun d R1 => if okR m R1 && !own.contains i then (f (.int x) d R1).out fun z R2 => match z with
    | .int w => .nx (ρ.set i (some (.int w))) R2
    | _ => .bad
    else .bad
  | _ => .bad := rfl
theorem for_ap : gFor m own vs it T g1 ρ R = (it (see m own ρ) R).out fun ds R1 => if okR m R1 && vs.all (fun i => !own.contains i) then loopG T g1 ds ρ R1 else .bad := rfl
theorem whl_ap {fu : PEnv → Rs → Nat} : gWhl fu m own t g1 ρ R = whlG m own t g1 (fu ρ R) ρ R := rfl
theorem app_ap : gApp m own i g ρ R = match ρ[i]? with
  | some (some (.lst ds)) => (g (see m own ρ) R).out fun d R1 => if okM m d R1 && own.contains i && decide (ds.length < sizeLine) then .nx (ρ.set i (some (.lst (ds ++ [d])))) R1 else .bad
  | _ => .bad := rfl
theorem ext_ap : gExt m own i g ρ R = match ρ[i]? with
  | some (some (.lst ds)) => (g (see m own ρ) R).out fun d R1 => match d with
    | .lst es => if okO m (.lst es) R1 && own.contains i && decide (ds.length + es.length ≤ sizeLine) then .nx (ρ.set i (some (.lst (ds ++ es)))) R1 else .bad
    | _ => .bad
  | _ => .bad := rfl
theorem pop_ap : gPop own i ρ R = match ρ[i]? with
  | some (some (.lst (d :: ds))) => .nx (ρ.set i (some (.lst (d :: ds).dropLast))) R
  | _ => .bad := rfl
theorem par_ap {is : List Nat} {fl : List Bool} : gPar own is fl gs ρ R = (gs (hide own ρ) R).out fun ds R1 => if flOk own is fl && decide (is.Nodup) && decide (ds.length = is.length) then .nx (setAll is ds ρ) R1 else .bad := rfl
theorem asg_ap : gAsg m own vs T g ρ R = (g (see m own ρ) R).out fun d R1 => if okM m d R1 && vs.all (fun i => !own.contains i) then match T d ρ with
  | some ρ1 => .nx ρ1 R1
  | none => .bad
  else .bad := rfl
theorem dset_ap : gDSet m own i ga g ρ R = (g (see m own ρ) R).out fun d R1 => if okM m d R1 && own.contains i then match ρ[i]? with
  | some (some (.dic kvs)) => (ga (see m own ρ) R1).out fun y R2 => match keyOf y with
    | some k => if okR m R2 && decide (kvs.length < sizeLine) then .nx (ρ.set i (some (.dic (putD kvs k d)))) R2 else .bad
    | none => .bad
  | _ => .bad
  else .bad := rfl
theorem stF_ap {c f : Str} : gStF m own i c f g ρ R = (g (see m own ρ) R).out fun d R1 => if okM m d R1 then match (hide own ρ)[i]? with
  | some (some (.loc l)) => match R1[l]? with
    | some (.ins c' fs) => if c' = c ∧ fs.length < 1000 then .nx ρ (R1.set l (.ins c (putFD f d fs))) else .bad
    | _ => .bad
  | _ => .bad
  else .bad := rfl
theorem fldL_ap {c f : Str} : gFldL i c f ρ R = match ρ[i]? with
  | some (some (.loc l)) => match R[l]? with
    | some (.ins c' fs) => if c' = c then match fs.lookup f with
      | some v => .ok v R
      | none => .bad
      else .bad
    | _ => .bad
  | _ => .bad := rfl
theorem see_f : see .f own ρ = hide own ρ := rfl
theorem see_g : see .g own ρ = ρ := rfl
theorem okM_f : okM .f d R = true := rfl
theorem okM_g : okM .g d R = (d.imm && R.all immO) := rfl
theorem okR_f : okR .f R = true := rfl
theorem okR_g : okR .g R = R.all immO := rfl
theorem okO_f : okO .f d R = true := rfl
theorem okO_g : okO .g d R = (immO d && R.all immO) := rfl
theorem hide_nil : hide [] ρ = ρ := rfl
theorem hide_cons : hide (i :: own) ρ = hide own (ρ.set i none) := rfl
theorem setAll_cons {is : List Nat} : setAll (i :: is) (x :: xs) ρ = setAll is xs (ρ.set i (some x)) := rfl
theorem setAll_nil : setAll [] xs ρ = ρ := rfl
theorem wipe_nil : wipeD ρ [] = ρ := rfl
theorem wipe_cons : wipeD ρ (i :: vs) = (wipeD ρ vs).set i none := rfl
theorem runB_ap : runB n g1 ds R = out1 (g1 (startD n ds) R) := rfl
theorem runL_ap {l : Nat} : runL n g1 l ds R = out1 (g1 (startL n l ds) R) := rfl
theorem startL_ap {l : Nat} : startL n l ds = some (.loc l) :: startD (n - 1) ds := rfl
theorem startD_ap : startD n ds = ds.map some ++ List.replicate (n - ds.length) none := rfl
theorem out1_nx : out1 (.nx ρ R) = .ok .non R := rfl
theorem out1_rt : out1 (.rt d R) = .ok d R := rfl
theorem dName_ap : dName i d ρ = some (ρ.set i (some d)) := rfl
theorem dGTup_ap {U : TDs} : dGTup n U (.tup ds) ρ = if ds.length = n then U ds ρ else none := rfl
theorem dGLst_ap {U : TDs} : dGLst n U (.lst ds) ρ = if ds.length = n then U ds ρ else none := rfl
theorem dGCons_ap {U : TDs} : dGCons T U (d :: ds) ρ = (T d ρ).bind fun ρ1 => U ds ρ1 := rfl
theorem dGNil_ap : dGNil [] ρ = some ρ := rfl
/-! values -/
theorem dAdd_ap {i j : Int} : dAdd (.int i) (.int j) R = .ok (.int (i + j)) R := rfl
theorem dSub_ap {i j : Int} : dSub (.int i) (.int j) R = .ok (.int (i - j)) R := rfl
theorem dMul_ap {i j : Int} : dMul (.int i) (.int j) R = if CMul i j then .ok (.int (i * j)) R else .bad := rfl
theorem dFdiv_ap {i j : Int} : dFdiv (.int i) (.int j) R = if CDiv i j then .ok (.int (i / j)) R else .bad := rfl
theorem dMod_ap {i j : Int} : dMod (.int i) (.int j) R = if 0 < j then .ok (.int (i % j)) R else .bad := rfl
theorem dLt_ap {i j : Int} : dLt (.int i) (.int j) R = .ok (.bl (decide (i < j))) R := rfl
theorem dLe_ap {i j : Int} : dLe (.int i) (.int j) R = .ok (.bl (decide (i ≤ j))) R := rfl
theorem dGt_ap {i j : Int} : dGt (.int i) (.int j) R = .ok (.bl (decide (j < i))) R := rfl
theorem dGe_ap {i j : Int} : dGe (.int i) (.int j) R = .ok (.bl (decide (j ≤ i))) R := rfl
theorem bOf_ap {b : Bool} : bOf (.bl b) R = .ok b R := rfl
theorem dNeg_ap {i : Int} : dNeg (.int i) R = .ok (.int (-i)) R := rfl
theorem dNot_ap {b : Bool} : dNot (.bl b) R = .ok (.bl (!b)) R := rfl
theorem eqS_int {b : Bool} {i j : Int} : dEqS b (.int i) (.int j) R = .ok (.bl (b ^^ decide (i = j))) R := rfl
theorem eqS_bl {b i j : Bool} : dEqS b (.bl i) (.bl j) R = .ok (.bl (b ^^ decide (i = j))) R := rfl
theorem eqS_str {b : Bool} {i j : Str} : dEqS b (.str i) (.str j) R = .ok (.bl (b ^^ decide (i = j))) R := rfl
theorem dInt1_ap {i : Int} : dInt1 [.int i] R = .ok (.int i) R := rfl
theorem dInt1_bl {b : Bool} : dInt1 [.bl b] R = .ok (.int (if b then 1 else 0)) R := rfl
theorem dMax2_ap {i j : Int} : dMax2 [.int i, .int j] R = .ok (.int (if j > i then j else i)) R := rfl
theorem dMin2_ap {i j : Int} : dMin2 [.int i, .int j] R = .ok (.int (if j < i then j else i)) R := rfl
theorem dAbs_ap {i : Int} : dAbs [.int i] R = .ok (.int (if i < 0 then -i else i)) R := rfl
theorem dSum_ap : dSum [.lst xs] R = match intsOf xs with
    | some ns => .ok (.int ns.sum) R
    | none => .bad := rfl
theorem dAny_ap : dAny [.lst xs] R = match blsOf xs with
    | some ns => .ok (.bl (ns.any id)) R
    | none => .bad := rfl
theorem dAll_ap : dAll [.lst xs] R = match blsOf xs with
    | some ns => .ok (.bl (ns.all id)) R
    | none => .bad := rfl
theorem dLen_l : dLen [.lst xs] R = .ok (.int xs.length) R := rfl
theorem dLen_t : dLen [.tup xs] R = .ok (.int xs.length) R := rfl
theorem dLen_a : dLen [.arm xs] R = .ok (.int xs.length) R := rfl
theorem dIx_l {i : Int} : dIx (.lst xs) (.int i) R = match atI xs i with
    | some d => .ok d R
    | none => .bad := rfl
theorem dIx_t {i : Int} : dIx (.tup xs) (.int i) R = match atI xs i with
    | some d => .ok d R
    | none => .bad := rfl
theorem dIx_a {i : Int} : dIx (.arm xs) (.int i) R = match atI xs i with
    | some d => .ok d R
    | none => .bad := rfl
theorem dTup_ap : dTup xs R = if xs.length ≤ sizeLine then .ok (.tup xs) R else .bad := rfl
theorem dLst_ap : dLst xs R = if xs.length ≤ sizeLine then .ok (.lst xs) R else .bad := rfl
theorem dArm_ap : dArm xs R = if xs.length ≤ sizeLine then .ok (.arm xs) R else .bad := rfl
theorem dList_l : dList [.lst xs] R = .ok (.lst xs) R := rfl
theorem dList_t : dList [.tup xs] R = .ok (.lst xs) R := rfl
theorem dTupl_ap : dTupl [.lst xs] R = .ok (.tup xs) R := rfl
theorem dTupA_ap : dTupA [.lst xs] R = .ok (.arm xs) R := rfl
theorem lstOf_ap : lstOf (.lst xs) R = .ok xs R := rfl
theorem tupOf_t : tupOf (.tup xs) R = .ok xs R := rfl
theorem tupOf_a : tupOf (.arm xs) R = .ok xs R := rfl
theorem itemsOf_t : itemsOf (.tup xs) R = .ok xs R := rfl
theorem itemsOf_l : itemsOf (.lst xs) R = .ok xs R := rfl
theorem dSl_l {l k : Option Int} : dSl (.lst xs) l k R = .ok (.lst (cutD xs l k)) R := rfl
theorem dSl_t {l k : Option Int} : dSl (.tup xs) l k R = .ok (.tup (cutD xs l k)) R := rfl
theorem dSlL_ap {l k : Option Int} : dSlL (.lst xs) l k R = .ok (.lst (cutD xs l k)) R := rfl
theorem dCatL_ap : dCatL (.lst xs) (.lst ys) R = if xs.length + ys.length ≤ sizeLine then .ok (.lst (xs ++ ys)) R else .bad := rfl
theorem dIsN_ap {b : Bool} : dIsN b x R = match x with
  | .non => .ok (.bl (!b)) R
  | _ => .ok (.bl b) R := rfl
theorem rng1_ap {j : Int} : rng1 [.int j] R = if inB j then .ok (rngD 0 j.toNat) R else .bad := rfl
theorem rng2_ap {i j : Int} : rng2 [.int i, .int j] R = if inB i && inB j then .ok (rngD i (j - i).toNat) R else .bad := rfl
theorem dRange_1 {b : Int} : dRange [.int b] R = if rgOkB 0 b then .ok (.lst (rngD 0 b.toNat)) R else .bad := rfl
theorem dRange_2 {a b : Int} : dRange [.int a, .int b] R = if rgOkB a b then .ok (.lst (rngD a (b - a).toNat)) R else .bad := rfl
theorem dRange3_ap {a b : Int} : dRange3 [.int a, .int b, .int (-1)] R = if rgOkB a b && rgOkB b a then .ok (.lst ((List.range (a - b).toNat).map fun i => .int (a - (i : Nat)))) R else .bad := rfl
theorem ownB_ap {c : Str} {fs gs : List (Str × D)} : dOwnB c h (.ins c fs) (.ins c gs) R = h [.ins c fs, .ins c gs] R := by simp [dOwnB]
theorem ownT_ap {c : Str} {fs : List (Str × D)} {i : Int} : dOwnT c h (.ins c fs) (.int i) R = h [.ins c fs, .int i] R := by simp [dOwnT]
theorem ownN_ap {c : Str} {fs : List (Str × D)} : dOwnN c h (.ins c fs) R = h [.ins c fs] R := by simp [dOwnN]
theorem eqI_ap {c : Str} {b : Bool} {fs gs : List (Str × D)} : dEqI c b h (.ins c fs) (.ins c gs) R = (h [.ins c fs, .ins c gs] R).bind fun d R => match d with
    | .bl k => .ok (.bl (b ^^ k)) R
    | _ => .bad := by simp only [dEqI, and_self, if_true] <;> rfl
theorem isC_y {c : Str} {fs : List (Str × D)} : dIsC c [.ins c fs, .cls c] R = .ok (.bl true) R := by simp [dIsC]
theorem mkEnd_ok {c : Str} {k : Nat} {R0 : Rs} {fs : List (Str × D)} (hk : R0.length = k) : mkEnd c k (.ok .non (R0 ++ [.ins c fs])) = .ok (.ins c fs) R0 := by simp [mkEnd, hk]
theorem il_int {i : Int} : (D.int i).isLoc = false := rfl
theorem il_bl {i : Bool} : (D.bl i).isLoc = false := rfl
theorem il_str {i : Str} : (D.str i).isLoc = false := rfl
theorem il_non : D.non.isLoc = false := rfl
theorem il_tup : (D.tup xs).isLoc = false := rfl
theorem il_lst : (D.lst xs).isLoc = false := rfl
theorem il_armD : (D.arm xs).isLoc = false := rfl
theorem il_ins {c : Str} {fs : List (Str × D)} : (D.ins c fs).isLoc = false := rfl
theorem il_dic {kvs : List (Key × D)} : (D.dic kvs).isLoc = false := rfl
theorem il_ar {a : Arms} : (arD a).isLoc = false := rfl
theorem il_rig {a : Arms} : (rigD a).isLoc = false := rfl
theorem le_line {n : Nat} (h : n ≤ 100000) : (n ≤ sizeLine) = True := eq_true (Nat.le_trans h (by decide))
theorem lt_line {n : Nat} (h : n < 100000) : (n < sizeLine) = True := eq_true (Nat.lt_of_lt_of_le h (by decide))
end
end Pv

namespace Pv
open PySem PySem.Spec PyProof.Rows L2 Sr Rg
/-! ### a, b, c, .. = w, x, y, .. by a tuple -/
def gNames : List Nat → TGs
  | [] => L2.gNil
  | i :: is => L2.gCons (gName i) (gNames is)
theorem gNames_of : ∀ {is : List Nat} {vs : List V} {σ : L2.St} {H : Hp} {Q : L2.St → Hp → Prop}, vs.length = is.length → Q (setAllV is vs σ) H → gNames is vs σ H Q
  | [], [], σ, H, Q, _, q => ⟨rfl, q⟩
  | i :: is, v :: vs, σ, H, Q, hl, q => ⟨v, vs, rfl, gNames_of (is := is) (by simpa using hl) q⟩
  | [], _ :: _, _, _, _, hl, _ => by simp at hl
  | _ :: _, [], _, _, _, hl, _ => by simp at hl
theorem Mix.len {K : PySem.W.Frag} {H : Hp} {S' : List Addr} {F' H' : Hp} : ∀ {fl : List Bool} {vs : List V} {ds : List D}, Mix K H S' F' H' fl vs ds → vs.length = ds.length
  | _, _, _, .nil => rfl
  | _, _, _, .old _ m => by simp [Mix.len m]
  | _, _, _, .new _ _ _ _ _ _ m => by simp [Mix.len m]
section
variable {X : Cx} {E : XK} {own ol : List Nat} {fl : List Bool} {es ts : List Expr} {gs : GA} {pos p1 p2 : Pos} {kt k2 : Nat}
theorem st_parN {is : List Nat} {n : Nat} (hc : X.calm = true) (hg : PGs X ts (gNames is)) (ha : EvM X E fl es gs) (hn : is.length = n) (hsz : n ≤ 1000)
    (h2 : (assignEach ts X.env).length = n := by rfl) (hst : (assignEach ts X.env).findIdx? (·.1) = none := by rfl)
    (hs : swapsWithSole [.Tuple ts kt p1] (.Tuple es k2 p2) pos.line X.env = pure false := by rfl) (hw : swappedStores [.Tuple ts kt p1] (.Tuple es k2 p2) X.env = pure none := by rfl) (h1 : (assignEach [.Tuple ts kt p1] X.env).map (·.2) = [assign (.Tuple ts kt p1) X.env] := by rfl) :
    Stm X E own own ol (.Assign [.Tuple ts kt p1] (.Tuple es k2 p2) pos) (gPar own is fl gs) := ps_imp (ps_asg (pe_tup ha) (pg_tup hc hg h2 hst) hs hw h1) fun Dn σ H ⟨S0, F0, H0, ρ, R, ⟨S, F, s⟩, h⟩ => by
  refine ⟨S, F, hide own ρ, R, s.view, ?_⟩
  unfold gPar at h
  cases q : gs (hide own ρ) R with
  | ok ds R1 =>
    rw [q] at h
    simp only [Res.out_ok] at h
    split at h
    · rename_i hcc
      simp only [Bool.and_eq_true, decide_eq_true_eq] at hcc
      intro vs S1 F1 H1 e1 c1 m
      have hlen : vs.length = is.length := m.len.trans hcc.2
      refine ⟨by rw [hlen, hn]; exact Nat.le_trans hsz (by decide), fun p hp => ?_⟩
      refine ⟨p, vs, rfl, SqT.of upd_same, by rw [hlen]; exact hn, gNames_of hlen ?_⟩
      have e2 : Ext S1 F1 H1 S1 F1 (upd H1 p (.tup vs)) := .newO e1.fh hp
      have c2 : Cells X.K S1 F1 (upd H1 p (.tup vs)) R1 := c1.upd (c1.fresh hp)
      have s1 := (s.on e1 c1).on e2 c2
      have keep : ∀ {fl : List Bool} {vs' : List V} {ds : List D}, Mix X.K H S1 F1 H1 fl vs' ds → Mix X.K H S1 F1 (upd H1 p (.tup vs)) fl vs' ds := by
        intro fl vs' ds m
        induction m with
        | nil => exact .nil
        | old r _ ih => exact .old r ih
        | new a b c d e f _ ih => exact .new (by rw [upd_ne (ne_of_none a hp)]; exact a) b c d e f ih
      refine h _ _ ⟨_, _, SIn.setAll (Hb := H) (fun p hp => s.ext.back hp) hcc.1.1 hcc.1.2 hcc.2 (keep m) (fun j hj d h1 p hp k hk => ?_) s1⟩
      obtain ⟨_, _, _, o, h3, _⟩ := s.own_none ⟨j, hj, d, h1, hp⟩
      exact m.neq h3 k hk
    · exact h.elim
  | exc c fs R1 => rw [q] at h; exact fun d S1 F1 H1 e1 c1 rb => h d S1 F1 H1 (s.ext.trans e1) c1 rb
  | bad => rw [q] at h; exact h
end
end Pv

namespace Pv
open PySem PySem.Spec PyProof.Rows L2 Sr
/-! what never leaves by an exception -/
def calmF (f : List D → Rs → Res D) : List D → Rs → Res D := fun ds R => (f ds R).calm
theorem calmF_ap {f : List D → Rs → Res D} {ds : List D} {R : Rs} : calmF f ds R = (f ds R).calm := rfl
theorem calm_ne {f : List D → Rs → Res D} : ∀ ds R c fs R', calmF f ds R ≠ .exc c fs R' := fun ds R c fs R' h => by
  unfold calmF Res.calm at h
  split at h
  · cases h
  · rename_i hn; exact hn _ _ _ h
theorem calm_imp {K : PySem.W.Frag} {n : Nat} {f : List D → Rs → Res D} (vs : List V) (H : Hp) (Q : VK) (E : XK) (h : spP K n (calmF f) vs H Q E) : spP K n f vs H Q E := by
  obtain ⟨S, F, R, ds, hs, c, r, hl, h⟩ := h
  refine ⟨S, F, R, ds, hs, c, r, hl, ?_⟩
  unfold calmF Res.calm at h
  split at h
  · exact h.elim
  · exact h
end Pv

namespace Lw
open PySem PySem.Spec PyProof.Rows L2 Sr
def top (i : Nat) : Stmt := PySem.Challenge.pw_slackrods_k05_whole_chains_and_sums.main.body.getD i (.Pass ⟨0, 0, 0, 0⟩)
abbrev s__wall : Stmt := top 0
abbrev s_InvalidRow_init : Stmt := inClass (top 8) 0
abbrev s_is_int : Stmt := top 12
abbrev s_is_int_in : Stmt := top 13
abbrev s_is_place : Stmt := top 14
abbrev s_check_row : Stmt := top 15
abbrev s_moved : Stmt := top 17
abbrev s_followed : Stmt := top 18
abbrev s_curve_of : Stmt := top 24
abbrev s_pull_of : Stmt := top 25
abbrev s_end_at : Stmt := top 26
abbrev s_never_falls : Stmt := top 27
abbrev s_sorted_arms : Stmt := top 28
abbrev s_added : Stmt := top 29
abbrev s_bent : Stmt := top 30
abbrev s_greatest_slack : Stmt := top 31
abbrev s_driven : Stmt := top 32
abbrev s_Rig_init : Stmt := inClass (top 33) 0
abbrev s_Rig_arms : Stmt := inClass (top 33) 1
abbrev s_Rig_pull : Stmt := inClass (top 33) 2
abbrev s_Rig_is_forward : Stmt := inClass (top 33) 3
abbrev s_Rig_still : Stmt := inClass (top 33) 4
abbrev s_Rig_curve : Stmt := inClass (top 33) 5
abbrev s_Rig_at : Stmt := inClass (top 33) 6
abbrev s_Rig_add : Stmt := inClass (top 33) 7
abbrev s_Rig_sub : Stmt := inClass (top 33) 8
abbrev s_Rig_neg : Stmt := inClass (top 33) 9
abbrev s_Rig_mul : Stmt := inClass (top 33) 10
abbrev s_Rig_rshift : Stmt := inClass (top 33) 11
abbrev s_Rig_call : Stmt := inClass (top 33) 12
abbrev s_Rig_len : Stmt := inClass (top 33) 13
abbrev s_Rig_getitem : Stmt := inClass (top 33) 14
abbrev s_Rig_iter : Stmt := inClass (top 33) 15
abbrev s_Rig_eq : Stmt := inClass (top 33) 16
abbrev s_ends_from : Stmt := top 34
abbrev s_ends_of : Stmt := top 35
abbrev s_rod : Stmt := top 36
abbrev s_L_random : Stmt := top 38
abbrev s_L_below : Stmt := top 39
abbrev s_L_rig : Stmt := top 40
abbrev s_L_rest : Stmt := top 41
abbrev s_L_steps : Stmt := top 42
abbrev s_L_step : Stmt := top 43
abbrev s_L_path : Stmt := top 44
abbrev s_L_curve : Stmt := top 45
abbrev s_L_total : Stmt := top 46
abbrev s_L_is_forward : Stmt := top 47
abbrev s_L_tree : Stmt := top 48
abbrev s_law : Stmt := top 49
def d__wall : He.DefD := ⟨("_wall", none), "_wall", "_wall", defArgs s__wall, defBody s__wall, defScope s__wall, [], []⟩
def d_is_int : He.DefD := ⟨("is_int", none), "is_int", "is_int", defArgs s_is_int, defBody s_is_int, defScope s_is_int, [], []⟩
def d_is_int_in : He.DefD := ⟨("is_int_in", none), "is_int_in", "is_int_in", defArgs s_is_int_in, defBody s_is_int_in, defScope s_is_int_in, [], []⟩
def d_is_place : He.DefD := ⟨("is_place", none), "is_place", "is_place", defArgs s_is_place, defBody s_is_place, defScope s_is_place, [], []⟩
def d_check_row : He.DefD := ⟨("check_row", none), "check_row", "check_row", defArgs s_check_row, defBody s_check_row, defScope s_check_row, [], []⟩
def d_moved : He.DefD := ⟨("moved", none), "moved", "moved", defArgs s_moved, defBody s_moved, defScope s_moved, [], []⟩
def d_followed : He.DefD := ⟨("followed", none), "followed", "followed", defArgs s_followed, defBody s_followed, defScope s_followed, [], []⟩
def d_curve_of : He.DefD := ⟨("curve_of", none), "curve_of", "curve_of", defArgs s_curve_of, defBody s_curve_of, defScope s_curve_of, [], []⟩
def d_pull_of : He.DefD := ⟨("pull_of", none), "pull_of", "pull_of", defArgs s_pull_of, defBody s_pull_of, defScope s_pull_of, [], []⟩
def d_end_at : He.DefD := ⟨("end_at", none), "end_at", "end_at", defArgs s_end_at, defBody s_end_at, defScope s_end_at, [], []⟩
def d_never_falls : He.DefD := ⟨("never_falls", none), "never_falls", "never_falls", defArgs s_never_falls, defBody s_never_falls, defScope s_never_falls, [], []⟩
def d_sorted_arms : He.DefD := ⟨("sorted_arms", none), "sorted_arms", "sorted_arms", defArgs s_sorted_arms, defBody s_sorted_arms, defScope s_sorted_arms, [], []⟩
def d_added : He.DefD := ⟨("added", none), "added", "added", defArgs s_added, defBody s_added, defScope s_added, [], []⟩
def d_bent : He.DefD := ⟨("bent", none), "bent", "bent", defArgs s_bent, defBody s_bent, defScope s_bent, [], []⟩
def d_greatest_slack : He.DefD := ⟨("greatest_slack", none), "greatest_slack", "greatest_slack", defArgs s_greatest_slack, defBody s_greatest_slack, defScope s_greatest_slack, [], []⟩
def d_driven : He.DefD := ⟨("driven", none), "driven", "driven", defArgs s_driven, defBody s_driven, defScope s_driven, [], []⟩
def d_Rig_init : He.DefD := ⟨("Rig", some "__init__"), "__init__", "Rig.__init__", defArgs s_Rig_init, defBody s_Rig_init, defScope s_Rig_init, [], []⟩
def d_Rig_curve : He.DefD := ⟨("Rig", some "curve"), "curve", "Rig.curve", defArgs s_Rig_curve, defBody s_Rig_curve, defScope s_Rig_curve, [], []⟩
def d_Rig_at : He.DefD := ⟨("Rig", some "at"), "at", "Rig.at", defArgs s_Rig_at, defBody s_Rig_at, defScope s_Rig_at, [], []⟩
def d_Rig_add : He.DefD := ⟨("Rig", some "__add__"), "__add__", "Rig.__add__", defArgs s_Rig_add, defBody s_Rig_add, defScope s_Rig_add, [], []⟩
def d_Rig_sub : He.DefD := ⟨("Rig", some "__sub__"), "__sub__", "Rig.__sub__", defArgs s_Rig_sub, defBody s_Rig_sub, defScope s_Rig_sub, [], []⟩
def d_Rig_neg : He.DefD := ⟨("Rig", some "__neg__"), "__neg__", "Rig.__neg__", defArgs s_Rig_neg, defBody s_Rig_neg, defScope s_Rig_neg, [], []⟩
def d_Rig_mul : He.DefD := ⟨("Rig", some "__mul__"), "__mul__", "Rig.__mul__", defArgs s_Rig_mul, defBody s_Rig_mul, defScope s_Rig_mul, [], []⟩
def d_Rig_rshift : He.DefD := ⟨("Rig", some "__rshift__"), "__rshift__", "Rig.__rshift__", defArgs s_Rig_rshift, defBody s_Rig_rshift, defScope s_Rig_rshift, [], []⟩
def d_Rig_call : He.DefD := ⟨("Rig", some "__call__"), "__call__", "Rig.__call__", defArgs s_Rig_call, defBody s_Rig_call, defScope s_Rig_call, [], []⟩
def d_Rig_len : He.DefD := ⟨("Rig", some "__len__"), "__len__", "Rig.__len__", defArgs s_Rig_len, defBody s_Rig_len, defScope s_Rig_len, [], []⟩
def d_Rig_getitem : He.DefD := ⟨("Rig", some "__getitem__"), "__getitem__", "Rig.__getitem__", defArgs s_Rig_getitem, defBody s_Rig_getitem, defScope s_Rig_getitem, [], []⟩
def d_Rig_iter : He.DefD := ⟨("Rig", some "__iter__"), "__iter__", "Rig.__iter__", defArgs s_Rig_iter, defBody s_Rig_iter, defScope s_Rig_iter, [], []⟩
def d_Rig_eq : He.DefD := ⟨("Rig", some "__eq__"), "__eq__", "Rig.__eq__", defArgs s_Rig_eq, defBody s_Rig_eq, defScope s_Rig_eq, [], []⟩
def d_ends_from : He.DefD := ⟨("ends_from", none), "ends_from", "ends_from", defArgs s_ends_from, defBody s_ends_from, defScope s_ends_from, [], []⟩
def d_ends_of : He.DefD := ⟨("ends_of", none), "ends_of", "ends_of", defArgs s_ends_of, defBody s_ends_of, defScope s_ends_of, [], []⟩
def d_rod : He.DefD := ⟨("rod", none), "rod", "rod", defArgs s_rod, defBody s_rod, defScope s_rod, [], []⟩
def d_L_random : He.DefD := ⟨("_law_random", none), "_law_random", "_law_random", defArgs s_L_random, defBody s_L_random, defScope s_L_random, [], []⟩
def d_L_below : He.DefD := ⟨("_law_below", none), "_law_below", "_law_below", defArgs s_L_below, defBody s_L_below, defScope s_L_below, [], []⟩
def d_L_rig : He.DefD := ⟨("_law_rig", none), "_law_rig", "_law_rig", defArgs s_L_rig, defBody s_L_rig, defScope s_L_rig, [], []⟩
def d_L_rest : He.DefD := ⟨("_law_rest", none), "_law_rest", "_law_rest", defArgs s_L_rest, defBody s_L_rest, defScope s_L_rest, [], []⟩
def d_L_steps : He.DefD := ⟨("_law_steps", none), "_law_steps", "_law_steps", defArgs s_L_steps, defBody s_L_steps, defScope s_L_steps, [], []⟩
def d_L_step : He.DefD := ⟨("_law_step", none), "_law_step", "_law_step", defArgs s_L_step, defBody s_L_step, defScope s_L_step, [], []⟩
def d_L_path : He.DefD := ⟨("_law_path", none), "_law_path", "_law_path", defArgs s_L_path, defBody s_L_path, defScope s_L_path, [], []⟩
def d_L_curve : He.DefD := ⟨("_law_curve", none), "_law_curve", "_law_curve", defArgs s_L_curve, defBody s_L_curve, defScope s_L_curve, [], []⟩
def d_L_total : He.DefD := ⟨("_law_total", none), "_law_total", "_law_total", defArgs s_L_total, defBody s_L_total, defScope s_L_total, [], []⟩
def d_L_is_forward : He.DefD := ⟨("_law_is_forward", none), "_law_is_forward", "_law_is_forward", defArgs s_L_is_forward, defBody s_L_is_forward, defScope s_L_is_forward, [], []⟩
def d_L_tree : He.DefD := ⟨("_law_tree", none), "_law_tree", "_law_tree", defArgs s_L_tree, defBody s_L_tree, defScope s_L_tree, [], []⟩
def d_law : He.DefD := ⟨("law", none), "law", "law", defArgs s_law, defBody s_law, defScope s_law, [], []⟩
def fn : List He.DefD := [d__wall, d_is_int, d_is_int_in, d_is_place, d_check_row, d_moved, d_followed, d_curve_of, d_pull_of, d_end_at, d_never_falls, d_sorted_arms, d_added, d_bent, d_greatest_slack, d_driven, d_Rig_init, d_Rig_curve, d_Rig_at, d_Rig_add, d_Rig_sub, d_Rig_neg, d_Rig_mul, d_Rig_rshift, d_Rig_call, d_Rig_len, d_Rig_getitem, d_Rig_iter, d_Rig_eq, d_ends_from, d_ends_of, d_rod, d_L_random, d_L_below, d_L_rig, d_L_rest, d_L_steps, d_L_step, d_L_path, d_L_curve, d_L_total, d_L_is_forward, d_L_tree, d_law]
def g_Rig_arms : PropD := ⟨"Rig", "arms", "Rig.arms", defArgs s_Rig_arms, defBody s_Rig_arms, defScope s_Rig_arms⟩
def g_Rig_pull : PropD := ⟨"Rig", "pull", "Rig.pull", defArgs s_Rig_pull, defBody s_Rig_pull, defScope s_Rig_pull⟩
def g_Rig_is_forward : PropD := ⟨"Rig", "is_forward", "Rig.is_forward", defArgs s_Rig_is_forward, defBody s_Rig_is_forward, defScope s_Rig_is_forward⟩
def g_Rig_still : PropD := ⟨"Rig", "still", "Rig.still", defArgs s_Rig_still, defBody s_Rig_still, defScope s_Rig_still⟩
def gt : List PropD := [g_Rig_arms, g_Rig_pull, g_Rig_is_forward, g_Rig_still]
def fa : List He.Fa := [.glo "_wall", .glo "RodError", .glo "InvalidSlack", .glo "InvalidTimes", .glo "NotForward", .glo "TooGreat", .glo "InvalidPlace", .glo "InvalidRow", .int "FAR" (1000000), .int "MAX_ROW" (1000), .glo "is_int", .glo "is_int_in", .glo "is_place", .glo "check_row", .glo "moved", .glo "followed", .int "MAX_SLACK" (99), .int "MAX_TIMES" (99), .int "MAX_ARMS" (60), .int "MAX_DEEP" (999), .glo "curve_of", .glo "pull_of", .glo "end_at", .glo "never_falls", .glo "sorted_arms", .glo "added", .glo "bent", .glo "greatest_slack", .glo "driven", .glo "Rig", .glo "ends_from", .glo "ends_of", .glo "rod", .glo "_law_random", .glo "_law_below", .glo "_law_rig", .glo "_law_rest", .glo "_law_steps", .glo "_law_step", .glo "_law_path", .glo "_law_curve", .glo "_law_total", .glo "_law_is_forward", .glo "_law_tree", .glo "law", .free "len", .free "abs", .free "min", .free "max", .free "sum", .free "sorted", .free "any", .free "isinstance", .free "range", .free "enumerate", .free "zip", .free "super", .free "int", .free "list", .free "tuple", .free "dict", .free "bool", .free "ValueError", .free "TypeError", .cls "Rig", .mkr "Rig", .noat "Rig" "told", .meth "Rig" "__init__", .meth "Rig" "curve", .meth "Rig" "at", .meth "Rig" "__add__", .meth "Rig" "__sub__", .meth "Rig" "__neg__", .meth "Rig" "__mul__", .meth "Rig" "__rshift__", .meth "Rig" "__call__", .meth "Rig" "__len__", .meth "Rig" "__getitem__", .meth "Rig" "__iter__", .meth "Rig" "__eq__"]
def ex (K : PySem.W.Frag) : Bool := (neIn K (He.ga K "Rig") (He.ma K (He.ga K "Rig") "__eq__") && (PySem.W.notFirst K (He.ga K "Rig") (.type "tuple") && (PySem.W.fnIn K (He.ma K (He.ga K "Rig") "__call__") && (clsAt K (He.ga K "Rig") && (PySem.W.selfFirst K (He.ga K "Rig") && (Pv.binT K (He.ga K "Rig") "int" .Mult && true))))))
abbrev SayL (K : PySem.W.Frag) (mg : Str → Option Value) : Prop := Say fa fn gt ex K mg
section
variable {K : PySem.W.Frag} {mg : Str → Option Value}
theorem S__wall (S : SayL K mg) : mg "_wall" = some (.ref (He.ga K "_wall")) := S.glo 0
theorem S_RodError (S : SayL K mg) : mg "RodError" = some (.ref (He.ga K "RodError")) := S.glo 1
theorem S_InvalidSlack (S : SayL K mg) : mg "InvalidSlack" = some (.ref (He.ga K "InvalidSlack")) := S.glo 2
theorem S_InvalidTimes (S : SayL K mg) : mg "InvalidTimes" = some (.ref (He.ga K "InvalidTimes")) := S.glo 3
theorem S_NotForward (S : SayL K mg) : mg "NotForward" = some (.ref (He.ga K "NotForward")) := S.glo 4
theorem S_TooGreat (S : SayL K mg) : mg "TooGreat" = some (.ref (He.ga K "TooGreat")) := S.glo 5
theorem S_InvalidPlace (S : SayL K mg) : mg "InvalidPlace" = some (.ref (He.ga K "InvalidPlace")) := S.glo 6
theorem S_InvalidRow (S : SayL K mg) : mg "InvalidRow" = some (.ref (He.ga K "InvalidRow")) := S.glo 7
theorem S_FAR (S : SayL K mg) : ∃ t, mg "FAR" = some (.int (1000000) t) := S.int 8
theorem S_MAX_ROW (S : SayL K mg) : ∃ t, mg "MAX_ROW" = some (.int (1000) t) := S.int 9
theorem S_is_int (S : SayL K mg) : mg "is_int" = some (.ref (He.ga K "is_int")) := S.glo 10
theorem S_is_int_in (S : SayL K mg) : mg "is_int_in" = some (.ref (He.ga K "is_int_in")) := S.glo 11
theorem S_is_place (S : SayL K mg) : mg "is_place" = some (.ref (He.ga K "is_place")) := S.glo 12
theorem S_check_row (S : SayL K mg) : mg "check_row" = some (.ref (He.ga K "check_row")) := S.glo 13
theorem S_moved (S : SayL K mg) : mg "moved" = some (.ref (He.ga K "moved")) := S.glo 14
theorem S_followed (S : SayL K mg) : mg "followed" = some (.ref (He.ga K "followed")) := S.glo 15
theorem S_MAX_SLACK (S : SayL K mg) : ∃ t, mg "MAX_SLACK" = some (.int (99) t) := S.int 16
theorem S_MAX_TIMES (S : SayL K mg) : ∃ t, mg "MAX_TIMES" = some (.int (99) t) := S.int 17
theorem S_MAX_ARMS (S : SayL K mg) : ∃ t, mg "MAX_ARMS" = some (.int (60) t) := S.int 18
theorem S_MAX_DEEP (S : SayL K mg) : ∃ t, mg "MAX_DEEP" = some (.int (999) t) := S.int 19
theorem S_curve_of (S : SayL K mg) : mg "curve_of" = some (.ref (He.ga K "curve_of")) := S.glo 20
theorem S_pull_of (S : SayL K mg) : mg "pull_of" = some (.ref (He.ga K "pull_of")) := S.glo 21
theorem S_end_at (S : SayL K mg) : mg "end_at" = some (.ref (He.ga K "end_at")) := S.glo 22
theorem S_never_falls (S : SayL K mg) : mg "never_falls" = some (.ref (He.ga K "never_falls")) := S.glo 23
theorem S_sorted_arms (S : SayL K mg) : mg "sorted_arms" = some (.ref (He.ga K "sorted_arms")) := S.glo 24
theorem S_added (S : SayL K mg) : mg "added" = some (.ref (He.ga K "added")) := S.glo 25
theorem S_bent (S : SayL K mg) : mg "bent" = some (.ref (He.ga K "bent")) := S.glo 26
theorem S_greatest_slack (S : SayL K mg) : mg "greatest_slack" = some (.ref (He.ga K "greatest_slack")) := S.glo 27
theorem S_driven (S : SayL K mg) : mg "driven" = some (.ref (He.ga K "driven")) := S.glo 28
theorem S_Rig (S : SayL K mg) : mg "Rig" = some (.ref (He.ga K "Rig")) := S.glo 29
theorem S_ends_from (S : SayL K mg) : mg "ends_from" = some (.ref (He.ga K "ends_from")) := S.glo 30
theorem S_ends_of (S : SayL K mg) : mg "ends_of" = some (.ref (He.ga K "ends_of")) := S.glo 31
theorem S_rod (S : SayL K mg) : mg "rod" = some (.ref (He.ga K "rod")) := S.glo 32
theorem S__law_random (S : SayL K mg) : mg "_law_random" = some (.ref (He.ga K "_law_random")) := S.glo 33
theorem S__law_below (S : SayL K mg) : mg "_law_below" = some (.ref (He.ga K "_law_below")) := S.glo 34
theorem S__law_rig (S : SayL K mg) : mg "_law_rig" = some (.ref (He.ga K "_law_rig")) := S.glo 35
theorem S__law_rest (S : SayL K mg) : mg "_law_rest" = some (.ref (He.ga K "_law_rest")) := S.glo 36
theorem S__law_steps (S : SayL K mg) : mg "_law_steps" = some (.ref (He.ga K "_law_steps")) := S.glo 37
theorem S__law_step (S : SayL K mg) : mg "_law_step" = some (.ref (He.ga K "_law_step")) := S.glo 38
theorem S__law_path (S : SayL K mg) : mg "_law_path" = some (.ref (He.ga K "_law_path")) := S.glo 39
theorem S__law_curve (S : SayL K mg) : mg "_law_curve" = some (.ref (He.ga K "_law_curve")) := S.glo 40
theorem S__law_total (S : SayL K mg) : mg "_law_total" = some (.ref (He.ga K "_law_total")) := S.glo 41
theorem S__law_is_forward (S : SayL K mg) : mg "_law_is_forward" = some (.ref (He.ga K "_law_is_forward")) := S.glo 42
theorem S__law_tree (S : SayL K mg) : mg "_law_tree" = some (.ref (He.ga K "_law_tree")) := S.glo 43
theorem S_law (S : SayL K mg) : mg "law" = some (.ref (He.ga K "law")) := S.glo 44
theorem S_len (S : SayL K mg) : mg "len" = none := S.free 45
theorem S_abs (S : SayL K mg) : mg "abs" = none := S.free 46
theorem S_min (S : SayL K mg) : mg "min" = none := S.free 47
theorem S_max (S : SayL K mg) : mg "max" = none := S.free 48
theorem S_sum (S : SayL K mg) : mg "sum" = none := S.free 49
theorem S_sorted (S : SayL K mg) : mg "sorted" = none := S.free 50
theorem S_any (S : SayL K mg) : mg "any" = none := S.free 51
theorem S_isinstance (S : SayL K mg) : mg "isinstance" = none := S.free 52
theorem S_range (S : SayL K mg) : mg "range" = none := S.free 53
theorem S_enumerate (S : SayL K mg) : mg "enumerate" = none := S.free 54
theorem S_zip (S : SayL K mg) : mg "zip" = none := S.free 55
theorem S_super (S : SayL K mg) : mg "super" = none := S.free 56
theorem S_int (S : SayL K mg) : mg "int" = none := S.free 57
theorem S_list (S : SayL K mg) : mg "list" = none := S.free 58
theorem S_tuple (S : SayL K mg) : mg "tuple" = none := S.free 59
theorem S_dict (S : SayL K mg) : mg "dict" = none := S.free 60
theorem S_bool (S : SayL K mg) : mg "bool" = none := S.free 61
theorem S_ValueError (S : SayL K mg) : mg "ValueError" = none := S.free 62
theorem S_TypeError (S : SayL K mg) : mg "TypeError" = none := S.free 63
theorem C_Rig (S : SayL K mg) : Cls K (He.ga K "Rig") := He.cls_ok (S.c.fact 64)
theorem K_Rig (S : SayL K mg) : Mk K (He.ga K "Rig") (He.ma K (He.ga K "Rig") "__init__") := He.mkr_ok (S.c.fact 65)
theorem N_Rig_told (S : SayL K mg) : NoAttr K (He.ga K "Rig") "told" := He.noat_ok (S.c.fact 66)
theorem Me_Rig_init (S : SayL K mg) : Meth K (He.ga K "Rig") "__init__" (He.ma K (He.ga K "Rig") "__init__") := He.meth_ok (S.c.fact 67)
theorem Me_Rig_curve (S : SayL K mg) : Meth K (He.ga K "Rig") "curve" (He.ma K (He.ga K "Rig") "curve") := He.meth_ok (S.c.fact 68)
theorem Me_Rig_at (S : SayL K mg) : Meth K (He.ga K "Rig") "at" (He.ma K (He.ga K "Rig") "at") := He.meth_ok (S.c.fact 69)
theorem Me_Rig_add (S : SayL K mg) : Meth K (He.ga K "Rig") "__add__" (He.ma K (He.ga K "Rig") "__add__") := He.meth_ok (S.c.fact 70)
theorem Me_Rig_sub (S : SayL K mg) : Meth K (He.ga K "Rig") "__sub__" (He.ma K (He.ga K "Rig") "__sub__") := He.meth_ok (S.c.fact 71)
theorem Me_Rig_neg (S : SayL K mg) : Meth K (He.ga K "Rig") "__neg__" (He.ma K (He.ga K "Rig") "__neg__") := He.meth_ok (S.c.fact 72)
theorem Me_Rig_mul (S : SayL K mg) : Meth K (He.ga K "Rig") "__mul__" (He.ma K (He.ga K "Rig") "__mul__") := He.meth_ok (S.c.fact 73)
theorem Me_Rig_rshift (S : SayL K mg) : Meth K (He.ga K "Rig") "__rshift__" (He.ma K (He.ga K "Rig") "__rshift__") := He.meth_ok (S.c.fact 74)
theorem Me_Rig_call (S : SayL K mg) : Meth K (He.ga K "Rig") "__call__" (He.ma K (He.ga K "Rig") "__call__") := He.meth_ok (S.c.fact 75)
theorem Me_Rig_len (S : SayL K mg) : Meth K (He.ga K "Rig") "__len__" (He.ma K (He.ga K "Rig") "__len__") := He.meth_ok (S.c.fact 76)
theorem Me_Rig_getitem (S : SayL K mg) : Meth K (He.ga K "Rig") "__getitem__" (He.ma K (He.ga K "Rig") "__getitem__") := He.meth_ok (S.c.fact 77)
theorem Me_Rig_iter (S : SayL K mg) : Meth K (He.ga K "Rig") "__iter__" (He.ma K (He.ga K "Rig") "__iter__") := He.meth_ok (S.c.fact 78)
theorem Me_Rig_eq (S : SayL K mg) : Meth K (He.ga K "Rig") "__eq__" (He.ma K (He.ga K "Rig") "__eq__") := He.meth_ok (S.c.fact 79)
theorem X_ne_Rig (S : SayL K mg) : (neIn K (He.ga K "Rig") (He.ma K (He.ga K "Rig") "__eq__")) = true := (He.ba S.more).1
theorem X_nf_Rig (S : SayL K mg) : (PySem.W.notFirst K (He.ga K "Rig") (.type "tuple")) = true := (He.ba (He.ba S.more).2).1
theorem X_ca_Rig (S : SayL K mg) : (PySem.W.fnIn K (He.ma K (He.ga K "Rig") "__call__")) = true := (He.ba (He.ba (He.ba S.more).2).2).1
theorem X_is_Rig (S : SayL K mg) : (clsAt K (He.ga K "Rig")) = true := (He.ba (He.ba (He.ba (He.ba S.more).2).2).2).1
theorem X_sf_Rig (S : SayL K mg) : (PySem.W.selfFirst K (He.ga K "Rig")) = true := (He.ba (He.ba (He.ba (He.ba (He.ba S.more).2).2).2).2).1
theorem X_mul_Rig (S : SayL K mg) : (Pv.binT K (He.ga K "Rig") "int" .Mult) = true := (He.ba (He.ba (He.ba (He.ba (He.ba (He.ba S.more).2).2).2).2).2).1
end
end Lw
namespace Lw
open PySem PySem.Spec PyProof.Rows L2 Sr Pv
def m_is_int : GS := (gRet (gAndV (gCB (dIsK .int) (gCons (gVar 0) (gCons (gC (.ty "int")) gNil))) (gUn dNot (gCB (dIsK .bl) (gCons (gVar 0) (gCons (gC (.ty "bool")) gNil))))))
def f_is_int : List D → Rs → Res D := pureF (runB 1 m_is_int)

def m_is_int_in : GS := (gRet (gAndV (gCall 1 f_is_int (gCons (gVar 0) gNil)) (gCh dLe dLe (gVar 1) (gVar 0) (gVar 2))))
def f_is_int_in : List D → Rs → Res D := pureF (runB 3 m_is_int_in)

def m_curve_of : GS := (gRet (gCB dSum (gCons (gLc [2, 3] (gIt tupOf (gVar 0)) (dGTup 2 (dGCons (dName 2) (dGCons (dName 3) dGNil))) gYes (gOp dMul (gCB dInt1 (gCons (gVar 3) gNil)) (gCB dMax2 (gCons (gC (.int 0)) (gCons (gOp dSub (gCB dInt1 (gCons (gVar 1) gNil)) (gCB dInt1 (gCons (gVar 2) gNil))) gNil))))) gNil)))
def f_curve_of : List D → Rs → Res D := pureF (runB 4 m_curve_of)

def m_pull_of : GS := (gRet (gCB dSum (gCons (gLc [1, 2] (gIt tupOf (gVar 0)) (dGTup 2 (dGCons (dName 1) (dGCons (dName 2) dGNil))) gYes (gCB dInt1 (gCons (gVar 2) gNil))) gNil)))
def f_pull_of : List D → Rs → Res D := pureF (runB 3 m_pull_of)

def m_never_falls : GS := (gSeq (gSet .f [] 1 (gC (.bl true)))
  (gSeq (gSet .f [] 2 (gC (.int 0)))
  (gSeq (gFor .f [] [3, 4] (gIt tupOf (gVar 0)) (dGTup 2 (dGCons (dName 3) (dGCons (dName 4) dGNil))) (gSeq (gAug .f [] 2 dAdd (gCB dInt1 (gCons (gVar 4) gNil)))
  (gSet .f [] 1 (gAndV (gVar 1) (gOp dGe (gVar 2) (gC (.int 0)))))))
  (gRet (gVar 1)))))
def f_never_falls : List D → Rs → Res D := pureF (runB 5 m_never_falls)

def m_sorted_arms : GS := (gSeq (gSet .f [] 1 (gCB dTupA (gCons (gLc [2] (gIt lstOf (gCB dSortedD (gCons (gVar 0) gNil))) (dName 2) (gB (gOp (dEqS true) (gOp dDGet (gVar 0) (gVar 2)) (gC (.int 0)))) (gTup (gCons (gVar 2) (gCons (gOp dDGet (gVar 0) (gVar 2)) gNil)))) gNil)))
  (gSeq (gIfS .f [] (gOr (gB (gOp dGt (gCB dLen (gCons (gVar 1) gNil)) (gC (.int 60)))) (gB (gCB dAny (gCons (gLc [2, 3] (gIt tupOf (gVar 1)) (dGTup 2 (dGCons (dName 2) (dGCons (dName 3) dGNil))) gYes (gOrV (gOp dGt (gCB dAbs (gCons (gCB dInt1 (gCons (gVar 3) gNil)) gNil)) (gC (.int 1000000))) (gOp dGt (gVar 2) (gC (.int 999))))) gNil)))) gNever gNext)
  (gRet (gVar 1))))
def f_sorted_arms : List D → Rs → Res D := pureF (runB 4 m_sorted_arms)

def m_added : GS := (gSeq (gSetO .f [3] 3 (gCB dDictF (gCons (gVar 0) gNil)))
  (gSeq (gFor .f [3] [4, 5] (gIt tupOf (gVar 1)) (dGTup 2 (dGCons (dName 4) (dGCons (dName 5) dGNil))) (gDSet .g [3] 3 (gVar 4) (gOp dAdd (gCB dInt1 (gCons (gGet2 (gVar 3) (gVar 4) (gC (.int 0))) gNil)) (gOp dMul (gCB dInt1 (gCons (gVar 2) gNil)) (gCB dInt1 (gCons (gVar 5) gNil))))))
  (gRet (gCall 1 f_sorted_arms (gCons (gVar 3) gNil)))))
def f_added : List D → Rs → Res D := pureF (runB 6 m_added)

def m_bent : GS := (gSeq (gSetO .f [1] 1 gDNew)
  (gSeq (gSet .f [1] 2 (gC (.int 0)))
  (gSeq (gFor .f [1] [3] (gItA rng1 (gCons (gOp dSub (gCB dLen (gCons (gVar 0) gNil)) (gC (.int 1))) gNil)) (dName 3) (gSeq (gSet .f [1] 4 (gOp dSub (gCB dInt1 (gCons (gOp dIx (gVar 0) (gOp dAdd (gVar 3) (gC (.int 1)))) gNil)) (gCB dInt1 (gCons (gOp dIx (gVar 0) (gVar 3)) gNil))))
  (gSeq (gDSet .f [1] 1 (gVar 3) (gOp dSub (gVar 4) (gVar 2)))
  (gSet .f [1] 2 (gVar 4)))))
  (gRet (gCall 1 f_sorted_arms (gCons (gVar 1) gNil))))))
def f_bent : List D → Rs → Res D := pureF (runB 5 m_bent)

def m_greatest_slack : GS := (gRet (gIf (gB (gOp (dEqD true) (gVar 0) (gArm gNil))) (gOp dIx (gOp dIx (gVar 0) (gUn dNeg (gC (.int 1)))) (gC (.int 0))) (gC (.int 0))))
def f_greatest_slack : List D → Rs → Res D := pureF (runB 1 m_greatest_slack)

def m_driven : GS := (gSeq (gSet .f [] 2 (gOp dAdd (gOp dAdd (gCB dInt1 (gCons (gCall 1 f_greatest_slack (gCons (gVar 0) gNil)) gNil)) (gCB dInt1 (gCons (gCall 1 f_greatest_slack (gCons (gVar 1) gNil)) gNil))) (gC (.int 1))))
  (gRet (gCall 1 f_bent (gCons (gLc [3] (gItA rng1 (gCons (gOp dAdd (gVar 2) (gC (.int 1))) gNil)) (dName 3) gYes (gCall 2 f_curve_of (gCons (gVar 1) (gCons (gCall 2 f_curve_of (gCons (gVar 0) (gCons (gVar 3) gNil))) gNil)))) gNil))))
def f_driven : List D → Rs → Res D := pureF (runB 4 m_driven)

def m_Rig_init : GS := (gStF .f [] 0 "Rig" "told" (gVar 1))
def f_Rig_init : Nat → List D → Rs → Res D := runL 2 m_Rig_init

def m_Rig_arms : GS := (gRet (gFld "Rig" "told" (gVar 0)))
def f_Rig_arms : List D → Rs → Res D := pureF (runB 1 m_Rig_arms)

def m_Rig_pull : GS := (gRet (gCall 1 f_pull_of (gCons (gFld "Rig" "told" (gVar 0)) gNil)))
def f_Rig_pull : List D → Rs → Res D := pureF (runB 1 m_Rig_pull)

def m_Rig_is_forward : GS := (gRet (gCall 1 f_never_falls (gCons (gFld "Rig" "told" (gVar 0)) gNil)))
def f_Rig_is_forward : List D → Rs → Res D := pureF (runB 1 m_Rig_is_forward)

def m_Rig_add : GS := (gRet (gMk "Rig" 2 f_Rig_init (gCons (gCall 3 f_added (gCons (gFld "Rig" "told" (gVar 0)) (gCons (gFld "Rig" "told" (gVar 1)) (gCons (gC (.int 1)) gNil)))) gNil)))
def f_Rig_add : List D → Rs → Res D := pureF (runB 2 m_Rig_add)

def m_Rig_sub : GS := (gRet (gMk "Rig" 2 f_Rig_init (gCons (gCall 3 f_added (gCons (gFld "Rig" "told" (gVar 0)) (gCons (gFld "Rig" "told" (gVar 1)) (gCons (gUn dNeg (gC (.int 1))) gNil)))) gNil)))
def f_Rig_sub : List D → Rs → Res D := pureF (runB 2 m_Rig_sub)

def m_Rig_neg : GS := (gRet (gMk "Rig" 2 f_Rig_init (gCons (gCall 3 f_added (gCons (gArm gNil) (gCons (gFld "Rig" "told" (gVar 0)) (gCons (gUn dNeg (gC (.int 1))) gNil)))) gNil)))
def f_Rig_neg : List D → Rs → Res D := pureF (runB 1 m_Rig_neg)

def m_Rig_mul : GS := (gSeq (gIfS .f [] (gNot (gB (gCall 3 f_is_int_in (gCons (gVar 1) (gCons (gUn dNeg (gC (.int 99))) (gCons (gC (.int 99)) gNil)))))) gNever gNext)
  (gRet (gMk "Rig" 2 f_Rig_init (gCons (gCall 3 f_added (gCons (gArm gNil) (gCons (gFld "Rig" "told" (gVar 0)) (gCons (gVar 1) gNil)))) gNil))))
def f_Rig_mul : List D → Rs → Res D := pureF (runB 2 m_Rig_mul)

def m_Rig_rshift : GS := (gSeq (gIfS .f [] (gNot (gB (gCall 1 f_never_falls (gCons (gFld "Rig" "told" (gVar 0)) gNil)))) gNever gNext)
  (gRet (gMk "Rig" 2 f_Rig_init (gCons (gCall 2 f_driven (gCons (gFld "Rig" "told" (gVar 0)) (gCons (gFld "Rig" "told" (gVar 1)) gNil))) gNil))))
def f_Rig_rshift : List D → Rs → Res D := pureF (runB 2 m_Rig_rshift)

def m_Rig_eq : GS := (gRet (gAndV (gCB (dIsC "Rig") (gCons (gVar 1) (gCons (gC (.cls "Rig")) gNil))) (gOp (dEqD false) (gFld "Rig" "told" (gVar 0)) (gFld "Rig" "told" (gVar 1)))))
def f_Rig_eq : List D → Rs → Res D := pureF (runB 2 m_Rig_eq)

def m_rod : GS := (gSeq (gIfS .f [] (gNot (gB (gCall 3 f_is_int_in (gCons (gVar 0) (gCons (gC (.int 0)) (gCons (gC (.int 99)) gNil)))))) gNever gNext)
  (gRet (gMk "Rig" 2 f_Rig_init (gCons (gArm (gCons (gTup (gCons (gVar 0) (gCons (gC (.int 1)) gNil))) gNil)) gNil))))
def f_rod : List D → Rs → Res D := pureF (runB 1 m_rod)


def RaW (H : Hp) (a : Addr) (n : Int) (_ : Nat) (σ' : L2.St) (H' : Hp) : Prop := ∃ (z : Int) (u : Option V), σ' = [some (.ref a), some (.int n), some (.int z), u] ∧ 0 ≤ z ∧ H' = H
def RaC (H1 : Hp) (D : Addr) (i : Nat) (H' : Hp) : Prop := Same H1 H' ∧ ∃ acc : List Int, H' D = some (.lst (List.map V.int acc)) ∧ acc.length ≤ i ∧ ∀ x ∈ acc, 0 ≤ x

abbrev f_L_below := belowF
theorem upd_self (H : Hp) (d : Addr) {o : HO} (h : H d = some o := by assumption) : upd H d o = H := by
  funext b; unfold upd; split
  · rename_i e; rw [e, h]
  · rfl
def m_L_rig (f_L_rig : List D → Rs → Res D) : GS := (gSeq (gIfS .f [] (gB (gOp (dEqS false) (gOp dIx (gVar 0) (gC (.int 0))) (gC (.str "rod")))) (gRet (gCall 1 f_rod (gCons (gOp dIx (gVar 0) (gC (.int 1))) gNil))) gNext)
  (gSeq (gSet .f [] 1 (gCall 1 f_L_rig (gCons (gOp dIx (gVar 0) (gC (.int 1))) gNil)))
  (gSeq (gIfS .f [] (gB (gOp (dEqS false) (gOp dIx (gVar 0) (gC (.int 0))) (gC (.str "*")))) (gRet (gOp (dOwnT "Rig" f_Rig_mul) (gVar 1) (gOp dIx (gVar 0) (gC (.int 2))))) gNext)
  (gSeq (gIfS .f [] (gB (gOp (dEqS false) (gOp dIx (gVar 0) (gC (.int 0))) (gC (.str "neg")))) (gRet (gUn (dOwnN "Rig" f_Rig_neg) (gVar 1))) gNext)
  (gSeq (gSet .f [] 2 (gCall 1 f_L_rig (gCons (gOp dIx (gVar 0) (gC (.int 2))) gNil)))
  (gSeq (gIfS .f [] (gB (gOp (dEqS false) (gOp dIx (gVar 0) (gC (.int 0))) (gC (.str ">>")))) (gRet (gOp (dOwnB "Rig" f_Rig_rshift) (gVar 1) (gVar 2))) gNext)
  (gRet (gIf (gB (gOp (dEqS false) (gOp dIx (gVar 0) (gC (.int 0))) (gC (.str "+")))) (gOp (dOwnB "Rig" f_Rig_add) (gVar 1) (gVar 2)) (gOp (dOwnB "Rig" f_Rig_sub) (gVar 1) (gVar 2))))))))))
def r_L_rig : Nat → List D → Rs → Res D
  | 0 => fun _ _ => .bad
  | k + 1 => runB 3 (m_L_rig (r_L_rig k))
def f_L_rig : List D → Rs → Res D := pureF (r_L_rig 6)

def m_L_rest (f_L_rest : List D → Rs → Res D) : GS := (gSeq (gIfS .f [] (gB (gOp (dEqS false) (gOp dIx (gVar 0) (gC (.int 0))) (gC (.str "rod")))) (gRet (gC (.int 0))) gNext)
  (gSeq (gIfS .f [] (gOr (gB (gOp (dEqS false) (gOp dIx (gVar 0) (gC (.int 0))) (gC (.str "+")))) (gB (gOp (dEqS false) (gOp dIx (gVar 0) (gC (.int 0))) (gC (.str "-"))))) (gRet (gTup (gCons (gCall 1 f_L_rest (gCons (gOp dIx (gVar 0) (gC (.int 1))) gNil)) (gCons (gCall 1 f_L_rest (gCons (gOp dIx (gVar 0) (gC (.int 2))) gNil)) gNil)))) gNext)
  (gSeq (gIfS .f [] (gB (gOp (dEqS false) (gOp dIx (gVar 0) (gC (.int 0))) (gC (.str ">>")))) (gRet (gTup (gCons (gCall 1 f_L_rest (gCons (gOp dIx (gVar 0) (gC (.int 1))) gNil)) (gCons (gC (.int 0)) (gCons (gCall 1 f_L_rest (gCons (gOp dIx (gVar 0) (gC (.int 2))) gNil)) gNil))))) gNext)
  (gRet (gCall 1 f_L_rest (gCons (gOp dIx (gVar 0) (gC (.int 1))) gNil))))))
def r_L_rest : Nat → List D → Rs → Res D
  | 0 => fun _ _ => .bad
  | k + 1 => runB 1 (m_L_rest (r_L_rest k))
def f_L_rest : List D → Rs → Res D := pureF (r_L_rest 6)

def m_L_steps : GS := (gRet (gIf (gB (gOp dGt (gVar 1) (gVar 0))) (gCB dRange (gCons (gOp dAdd (gVar 0) (gC (.int 1))) (gCons (gOp dAdd (gVar 1) (gC (.int 1))) gNil))) (gCB dRange3 (gCons (gOp dSub (gVar 0) (gC (.int 1))) (gCons (gOp dSub (gVar 1) (gC (.int 1))) (gCons (gOp dSub (gC (.int 0)) (gC (.int 1))) gNil))))))
def f_L_steps : List D → Rs → Res D := pureF (runB 2 m_L_steps)

def m_L_step (f_L_step : List D → Rs → Res D) : GS := (gSeq (gIfS .f [] (gB (gOp (dEqS false) (gOp dIx (gVar 0) (gC (.int 0))) (gC (.str "rod")))) (gSeq (gSet .f [] 3 (gCB dMin2 (gCons (gCB dMax2 (gCons (gVar 1) (gCons (gOp dSub (gVar 2) (gOp dIx (gVar 0) (gC (.int 1)))) gNil))) (gCons (gVar 2) gNil))))
  (gRet (gTup (gCons (gVar 3) (gCons (gVar 3) gNil))))) gNext)
  (gSeq (gIfS .f [] (gOr (gB (gOp (dEqS false) (gOp dIx (gVar 0) (gC (.int 0))) (gC (.str "+")))) (gB (gOp (dEqS false) (gOp dIx (gVar 0) (gC (.int 0))) (gC (.str "-"))))) (gSeq (gPar [] [4, 5] [false, false] (gCons (gCall 3 f_L_step (gCons (gOp dIx (gVar 0) (gC (.int 1))) (gCons (gOp dIx (gVar 1) (gC (.int 0))) (gCons (gVar 2) gNil)))) (gCons (gCall 3 f_L_step (gCons (gOp dIx (gVar 0) (gC (.int 2))) (gCons (gOp dIx (gVar 1) (gC (.int 1))) (gCons (gVar 2) gNil)))) gNil)))
  (gRet (gTup (gCons (gIf (gB (gOp (dEqS false) (gOp dIx (gVar 0) (gC (.int 0))) (gC (.str "+")))) (gOp dAdd (gOp dIx (gVar 4) (gC (.int 0))) (gOp dIx (gVar 5) (gC (.int 0)))) (gOp dSub (gOp dIx (gVar 4) (gC (.int 0))) (gOp dIx (gVar 5) (gC (.int 0))))) (gCons (gTup (gCons (gOp dIx (gVar 4) (gC (.int 1))) (gCons (gOp dIx (gVar 5) (gC (.int 1))) gNil))) gNil))))) gNext)
  (gSeq (gIfS .f [] (gB (gOp (dEqS false) (gOp dIx (gVar 0) (gC (.int 0))) (gC (.str "*")))) (gSeq (gAsg .f [] [6, 7] (dGTup 2 (dGCons (dName 6) (dGCons (dName 7) dGNil))) (gCall 3 f_L_step (gCons (gOp dIx (gVar 0) (gC (.int 1))) (gCons (gVar 1) (gCons (gVar 2) gNil)))))
  (gRet (gTup (gCons (gOp dMul (gVar 6) (gOp dIx (gVar 0) (gC (.int 2)))) (gCons (gVar 7) gNil))))) gNext)
  (gSeq (gIfS .f [] (gB (gOp (dEqS false) (gOp dIx (gVar 0) (gC (.int 0))) (gC (.str "neg")))) (gSeq (gAsg .f [] [6, 7] (dGTup 2 (dGCons (dName 6) (dGCons (dName 7) dGNil))) (gCall 3 f_L_step (gCons (gOp dIx (gVar 0) (gC (.int 1))) (gCons (gVar 1) (gCons (gVar 2) gNil)))))
  (gRet (gTup (gCons (gOp dSub (gC (.int 0)) (gVar 6)) (gCons (gVar 7) gNil))))) gNext)
  (gSeq (gAsg .f [] [8, 7] (dGTup 2 (dGCons (dName 8) (dGCons (dName 7) dGNil))) (gCall 3 f_L_step (gCons (gOp dIx (gVar 0) (gC (.int 1))) (gCons (gOp dIx (gVar 1) (gC (.int 0))) (gCons (gVar 2) gNil)))))
  (gSeq (gAsg .f [] [6, 9] (dGTup 2 (dGCons (dName 6) (dGCons (dName 9) dGNil))) (gCall 3 f_L_step (gCons (gOp dIx (gVar 0) (gC (.int 2))) (gCons (gOp dIx (gVar 1) (gC (.int 2))) (gCons (gOp dIx (gVar 1) (gC (.int 1))) gNil)))))
  (gSeq (gFor .f [] [10] (gIt lstOf (gCall 2 f_L_steps (gCons (gOp dIx (gVar 1) (gC (.int 1))) (gCons (gVar 8) gNil)))) (dName 10) (gAsg .f [] [6, 9] (dGTup 2 (dGCons (dName 6) (dGCons (dName 9) dGNil))) (gCall 3 f_L_step (gCons (gOp dIx (gVar 0) (gC (.int 2))) (gCons (gVar 9) (gCons (gVar 10) gNil))))))
  (gRet (gTup (gCons (gVar 6) (gCons (gTup (gCons (gVar 7) (gCons (gVar 8) (gCons (gVar 9) gNil)))) gNil)))))))))))
def r_L_step : Nat → List D → Rs → Res D
  | 0 => fun _ _ => .bad
  | k + 1 => runB 11 (m_L_step (r_L_step k))
def f_L_step : List D → Rs → Res D := pureF (r_L_step 6)

def m_L_path : GS := (gSeq (gPar [5] [2, 3, 4, 5, 6] [false, false, false, true, false] (gCons (gCall 1 f_L_rest (gCons (gVar 0) gNil)) (gCons (gC (.int 0)) (gCons (gC (.int 0)) (gCons (gLst gNil) (gCons (gC (.int 0)) gNil))))))
  (gSeq (gFor .f [5] [7] (gIt lstOf (gVar 1)) (dName 7) (gSeq (gFor .f [5] [8] (gIt lstOf (gCall 2 f_L_steps (gCons (gVar 3) (gCons (gVar 7) gNil)))) (dName 8) (gSeq (gSet .f [5] 9 (gVar 4))
  (gSeq (gAsg .f [5] [4, 2] (dGTup 2 (dGCons (dName 4) (dGCons (dName 2) dGNil))) (gCall 3 f_L_step (gCons (gVar 0) (gCons (gVar 2) (gCons (gVar 8) gNil)))))
  (gSet .f [5] 6 (gOp dAdd (gVar 6) (gCB dAbs (gCons (gOp dSub (gVar 4) (gVar 9)) gNil)))))))
  (gSeq (gSet .f [5] 3 (gVar 7))
  (gApp .f [5] 5 (gVar 4)))))
  (gRet (gTup (gCons (gVar 5) (gCons (gVar 6) gNil))))))
def f_L_path : List D → Rs → Res D := pureF (runB 10 m_L_path)

def m_L_curve : GS := (gRet (gOp dCatL (gLst (gCons (gC (.int 0)) gNil)) (gOp dIx (gCall 2 f_L_path (gCons (gVar 0) (gCons (gCB dRange (gCons (gC (.int 1)) (gCons (gOp dAdd (gVar 1) (gC (.int 1))) gNil))) gNil))) (gC (.int 0)))))
def f_L_curve : List D → Rs → Res D := pureF (runB 2 m_L_curve)

def m_L_total (f_L_total : List D → Rs → Res D) : GS := (gSeq (gIfS .f [] (gB (gOp (dEqS false) (gOp dIx (gVar 0) (gC (.int 0))) (gC (.str "rod")))) (gRet (gOp dIx (gVar 0) (gC (.int 1)))) gNext)
  (gSeq (gIfS .f [] (gOr (gB (gOp (dEqS false) (gOp dIx (gVar 0) (gC (.int 0))) (gC (.str "*")))) (gB (gOp (dEqS false) (gOp dIx (gVar 0) (gC (.int 0))) (gC (.str "neg"))))) (gRet (gCall 1 f_L_total (gCons (gOp dIx (gVar 0) (gC (.int 1))) gNil))) gNext)
  (gRet (gOp dAdd (gCall 1 f_L_total (gCons (gOp dIx (gVar 0) (gC (.int 1))) gNil)) (gCall 1 f_L_total (gCons (gOp dIx (gVar 0) (gC (.int 2))) gNil))))))
def r_L_total : Nat → List D → Rs → Res D
  | 0 => fun _ _ => .bad
  | k + 1 => runB 1 (m_L_total (r_L_total k))
def f_L_total : List D → Rs → Res D := pureF (r_L_total 6)

def m_L_is_forward : GS := (gSeq (gSet .f [] 1 (gCall 2 f_L_curve (gCons (gVar 0) (gCons (gOp dAdd (gCall 1 f_L_total (gCons (gVar 0) gNil)) (gC (.int 3))) gNil))))
  (gRet (gOp (dEqD false) (gLc [2] (gItA rng1 (gCons (gOp dSub (gCB dLen (gCons (gVar 1) gNil)) (gC (.int 1))) gNil)) (dName 2) (gB (gOp dLt (gOp dIx (gVar 1) (gOp dAdd (gVar 2) (gC (.int 1)))) (gOp dIx (gVar 1) (gVar 2)))) (gVar 2)) (gLst gNil))))
def f_L_is_forward : List D → Rs → Res D := pureF (runB 3 m_L_is_forward)

def m_L_tree (f_L_tree : Nat → List D → Rs → Res D) : GS := (gSeq (gSet .f [] 2 (gCallL 0 2 f_L_below (gCons (gC (.int 8)) gNil)))
  (gSeq (gIfS .f [] (gOr (gB (gOp (dEqS false) (gVar 1) (gC (.int 0)))) (gB (gOp (dEqS false) (gVar 2) (gC (.int 0))))) (gRet (gTup (gCons (gC (.str "rod")) (gCons (gCallL 0 2 f_L_below (gCons (gOp dIx (gLst (gCons (gC (.int 3)) (gCons (gC (.int 7)) gNil))) (gCallL 0 2 f_L_below (gCons (gC (.int 2)) gNil))) gNil)) gNil)))) gNext)
  (gSeq (gSet .f [] 3 (gCallL 0 2 f_L_tree (gCons (gOp dSub (gVar 1) (gC (.int 1))) gNil)))
  (gSeq (gIfS .f [] (gB (gOp (dEqS false) (gVar 2) (gC (.int 1)))) (gRet (gTup (gCons (gC (.str "*")) (gCons (gVar 3) (gCons (gOp dSub (gCallL 0 2 f_L_below (gCons (gC (.int 7)) gNil)) (gC (.int 3))) gNil))))) gNext)
  (gSeq (gIfS .f [] (gB (gOp (dEqS false) (gVar 2) (gC (.int 2)))) (gRet (gTup (gCons (gC (.str "neg")) (gCons (gVar 3) gNil)))) gNext)
  (gSeq (gSet .f [] 4 (gCallL 0 2 f_L_tree (gCons (gOp dSub (gVar 1) (gC (.int 1))) gNil)))
  (gSeq (gIfS .f [] (gB (gOp dLt (gVar 2) (gC (.int 5)))) (gRet (gTup (gCons (gC (.str "+")) (gCons (gVar 3) (gCons (gVar 4) gNil))))) gNext)
  (gSeq (gIfS .f [] (gOr (gB (gOp dLt (gVar 2) (gC (.int 6)))) (gNot (gB (gCall 1 f_L_is_forward (gCons (gVar 3) gNil))))) (gRet (gTup (gCons (gC (.str "-")) (gCons (gVar 3) (gCons (gVar 4) gNil))))) gNext)
  (gRet (gTup (gCons (gC (.str ">>")) (gCons (gVar 3) (gCons (gVar 4) gNil)))))))))))))
def r_L_tree : Nat → Nat → List D → Rs → Res D
  | 0 => fun _ _ _ => .bad
  | k + 1 => runL 5 (m_L_tree (r_L_tree k))
def f_L_tree : Nat → List D → Rs → Res D := r_L_tree 4

def m_law : GS := (gSeq (gSet .f [] 2 (gLc [8] (gItA rng1 (gCons (gC (.int 3)) gNil)) (dName 8) gYes (gCallL 1 2 f_L_below (gCons (gC (.int 33)) gNil))))
  (gSeq (gIfS .f [] (gB (gOp (dEqI "Rig" true f_Rig_eq) (gOp (dOwnB "Rig" f_Rig_rshift) (gCall 1 f_rod (gCons (gOp dIx (gVar 2) (gC (.int 0))) gNil)) (gCall 1 f_rod (gCons (gOp dIx (gVar 2) (gC (.int 1))) gNil))) (gCall 1 f_rod (gCons (gOp dAdd (gOp dIx (gVar 2) (gC (.int 0))) (gOp dIx (gVar 2) (gC (.int 1)))) gNil)))) (gRet (gC (.bl false))) gNext)
  (gSeq (gSet .f [] 3 (gOp (dOwnB "Rig" f_Rig_rshift) (gOp (dOwnB "Rig" f_Rig_rshift) (gCall 1 f_rod (gCons (gOp dIx (gVar 2) (gC (.int 0))) gNil)) (gCall 1 f_rod (gCons (gOp dIx (gVar 2) (gC (.int 1))) gNil))) (gCall 1 f_rod (gCons (gOp dIx (gVar 2) (gC (.int 2))) gNil))))
  (gSeq (gIfS .f [] (gB (gOp (dEqI "Rig" true f_Rig_eq) (gVar 3) (gOp (dOwnB "Rig" f_Rig_rshift) (gCall 1 f_rod (gCons (gOp dIx (gVar 2) (gC (.int 2))) gNil)) (gCall 1 f_rod (gCons (gOp dAdd (gOp dIx (gVar 2) (gC (.int 1))) (gOp dIx (gVar 2) (gC (.int 0)))) gNil))))) (gRet (gC (.bl false))) gNext)
  (gSeq (gFor .f [] [4] (gItA rng1 (gCons (gC (.int 2)) gNil)) (dName 4) (gSeq (gAsg .f [] [5, 6, 3] (dGLst 3 (dGCons (dName 5) (dGCons (dName 6) (dGCons (dName 3) dGNil)))) (gLc [8] (gItA rng1 (gCons (gC (.int 3)) gNil)) (dName 8) gYes (gCall 1 f_L_rig (gCons (gCallL 1 2 f_L_tree (gCons (gC (.int 2)) gNil)) gNil))))
  (gSeq (gIfS .f [] (gOr (gB (gOp (dEqI "Rig" true f_Rig_eq) (gOp (dOwnB "Rig" f_Rig_add) (gVar 5) (gVar 6)) (gOp (dOwnB "Rig" f_Rig_add) (gVar 6) (gVar 5)))) (gB (gOp (dEqI "Rig" true f_Rig_eq) (gOp (dOwnB "Rig" f_Rig_sub) (gVar 5) (gVar 6)) (gOp (dOwnB "Rig" f_Rig_add) (gVar 5) (gUn (dOwnN "Rig" f_Rig_neg) (gVar 6)))))) (gRet (gC (.bl false))) gNext)
  (gSeq (gIfS .f [] (gB (gOp (dEqI "Rig" true f_Rig_eq) (gOp (dOwnB "Rig" f_Rig_add) (gOp (dOwnB "Rig" f_Rig_add) (gVar 5) (gVar 6)) (gVar 3)) (gOp (dOwnB "Rig" f_Rig_add) (gVar 5) (gOp (dOwnB "Rig" f_Rig_add) (gVar 6) (gVar 3))))) (gRet (gC (.bl false))) gNext)
  (gSeq (gSet .f [] 7 (gOp dSub (gCallL 1 2 f_L_below (gCons (gC (.int 7)) gNil)) (gC (.int 3))))
  (gSeq (gIfS .f [] (gB (gOp (dEqI "Rig" true f_Rig_eq) (gOp (dOwnT "Rig" f_Rig_mul) (gOp (dOwnB "Rig" f_Rig_add) (gVar 5) (gVar 6)) (gVar 7)) (gOp (dOwnB "Rig" f_Rig_add) (gOp (dOwnT "Rig" f_Rig_mul) (gVar 5) (gVar 7)) (gOp (dOwnT "Rig" f_Rig_mul) (gVar 6) (gVar 7))))) (gRet (gC (.bl false))) gNext)
  (gSeq (gIfS .f [] (gOr (gB (gOp (dEqI "Rig" true f_Rig_eq) (gOp (dOwnT "Rig" f_Rig_mul) (gVar 5) (gC (.int 0))) (gOp (dOwnB "Rig" f_Rig_sub) (gVar 5) (gVar 5)))) (gB (gOp (dEqI "Rig" true f_Rig_eq) (gUn (dOwnN "Rig" f_Rig_neg) (gUn (dOwnN "Rig" f_Rig_neg) (gVar 5))) (gVar 5)))) (gRet (gC (.bl false))) gNext)
  (gSeq (gIfS .f [] (gB (gProp "Rig" (calmF f_Rig_is_forward) (gVar 5))) (gSeq (gIfS .f [] (gB (gOp (dEqI "Rig" true f_Rig_eq) (gOp (dOwnB "Rig" f_Rig_rshift) (gVar 5) (gOp (dOwnB "Rig" f_Rig_add) (gVar 6) (gVar 3))) (gOp (dOwnB "Rig" f_Rig_add) (gOp (dOwnB "Rig" f_Rig_rshift) (gVar 5) (gVar 6)) (gOp (dOwnB "Rig" f_Rig_rshift) (gVar 5) (gVar 3))))) (gRet (gC (.bl false))) gNext)
  (gSeq (gIfS .f [] (gB (gOp (dEqI "Rig" true f_Rig_eq) (gOp (dOwnB "Rig" f_Rig_rshift) (gVar 5) (gOp (dOwnT "Rig" f_Rig_mul) (gVar 6) (gVar 7))) (gOp (dOwnT "Rig" f_Rig_mul) (gOp (dOwnB "Rig" f_Rig_rshift) (gVar 5) (gVar 6)) (gVar 7)))) (gRet (gC (.bl false))) gNext)
  (gSeq (gIfS .f [] (gAnd (gB (gProp "Rig" (calmF f_Rig_is_forward) (gVar 6))) (gB (gOp (dEqI "Rig" true f_Rig_eq) (gOp (dOwnB "Rig" f_Rig_rshift) (gOp (dOwnB "Rig" f_Rig_rshift) (gVar 5) (gVar 6)) (gVar 3)) (gOp (dOwnB "Rig" f_Rig_rshift) (gVar 5) (gOp (dOwnB "Rig" f_Rig_rshift) (gVar 6) (gVar 3)))))) (gRet (gC (.bl false))) gNext)
  (gIfS .f [] (gOr (gB (gOp (dEqS true) (gProp "Rig" (calmF f_Rig_pull) (gOp (dOwnB "Rig" f_Rig_rshift) (gVar 5) (gVar 6))) (gOp dMul (gProp "Rig" (calmF f_Rig_pull) (gVar 5)) (gProp "Rig" (calmF f_Rig_pull) (gVar 6))))) (gB (gOp (dEqI "Rig" true f_Rig_eq) (gOp (dOwnB "Rig" f_Rig_rshift) (gVar 5) (gCall 1 f_rod (gCons (gC (.int 0)) gNil))) (gVar 5)))) (gRet (gC (.bl false))) gNext)))) gNext)
  (gIfS .f [] (gOr (gB (gOp (dEqI "Rig" true f_Rig_eq) (gOp (dOwnB "Rig" f_Rig_rshift) (gCall 1 f_rod (gCons (gC (.int 0)) gNil)) (gVar 5)) (gVar 5))) (gOr (gB (gOp (dEqS true) (gProp "Rig" (calmF f_Rig_pull) (gOp (dOwnB "Rig" f_Rig_add) (gVar 5) (gVar 6))) (gOp dAdd (gProp "Rig" (calmF f_Rig_pull) (gVar 5)) (gProp "Rig" (calmF f_Rig_pull) (gVar 6))))) (gB (gOp (dEqI "Rig" true f_Rig_eq) (gOp (dOwnT "Rig" f_Rig_mul) (gVar 5) (gC (.int 1))) (gVar 5))))) (gRet (gC (.bl false))) gNext)))))))))
  (gRet (gC (.bl true))))))))
end Lw
namespace Lw
open PySem PySem.Spec PyProof.Rows L2 Sr Pv Rg
theorem cmul_l {i j : Int} (h : small i) : CMul i j := .inl h
theorem cmul_r {i j : Int} (h : small j) : CMul i j := .inr h
theorem intsOf_of {α : Type} (f : α → Int) (xs : List α) : intsOf (xs.map fun x => .int (f x)) = some (xs.map f) := by
  rw [show (xs.map fun x => D.int (f x)) = (xs.map f).map D.int by simp, intsOf_map]
theorem blsOf_of {α : Type} (f : α → Bool) (xs : List α) : blsOf (xs.map fun x => .bl (f x)) = some (xs.map f) := by
  rw [show (xs.map fun x => D.bl (f x)) = (xs.map f).map D.bl by simp, blsOf_map]
/-- arms as they stand in a rig -/
structure Fit (a : Arms) : Prop where
  c : Canon a
  len : a.length ≤ 60
  arm : ∀ p ∈ a, -1000000 ≤ p.2 ∧ p.2 ≤ 1000000
  deep : ∀ p ∈ a, p.1 ≤ 999
theorem line60 {n : Nat} (h : n ≤ 100000) : n ≤ sizeLine := Nat.le_trans h (by decide)
theorem Fit.small {a : Arms} (h : Fit a) : ∀ p ∈ a, Pv.small p.2 := fun p hp => by have := h.arm p hp; unfold Pv.small; omega
theorem Fit.line {a : Arms} (h : Fit a) : a.length ≤ sizeLine := line60 (Nat.le_trans h.len (by decide))
theorem e_curve_of {a : Arms} {h : Int} {R : Rs} (fa : Fit a) : f_curve_of [arD a, .int h] R = .ok (.int (cv a h)) R := by
  unfold f_curve_of
  refine pureF_ok ?_
  unfold m_curve_of
  simp only [calmF_ap, le_line, lt_line, var_ap, c_ap, op_ap, un_ap, b_ap, and_ap, or_ap, not_ap, if_ap, andV_ap, orV_ap, ch_ap, nil_ap, cons_ap, star_ap, tup_ap, lst_ap, arm_ap, cb_ap, noPart_ap, part_ap, sl_ap, slL_ap, call_ap, callL_ap, mk_ap, fld_ap, prop_ap, meth_ap, callI_ap, get2_ap, dnew_ap, it_ap, itA_ap, yes_ap, next_ap, seq_ap, set_ap, setO_ap, drop_ap, ret_ap, retN_ap, brk_ap, cnt_ap, never_ap, ifS_ap, aug_ap, app_ap, ext_ap, pop_ap, par_ap, asg_ap, dset_ap, stF_ap, fldL_ap, see_f, see_g, okM_f, okM_g, okR_f, okR_g, okO_f, okO_g, hide_nil, hide_cons, setAll_cons, setAll_nil, wipe_nil, wipe_cons, runB_ap, runL_ap, startL_ap, startD_ap, out1_nx, out1_rt, dName_ap, dGTup_ap, dGLst_ap, dGCons_ap, dGNil_ap, dAdd_ap, dSub_ap, dMul_ap, dFdiv_ap, dMod_ap, dLt_ap, dLe_ap, dGt_ap, dGe_ap, bOf_ap, dNeg_ap, dNot_ap, eqS_int, eqS_bl, eqS_str, dInt1_ap, dInt1_bl, dMax2_ap, dMin2_ap, dAbs_ap, dSum_ap, dAny_ap, dAll_ap, dLen_l, dLen_t, dLen_a, dIx_l, dIx_t, dIx_a, dTup_ap, dLst_ap, dArm_ap, dList_l, dList_t, dTupl_ap, dTupA_ap, lstOf_ap, tupOf_t, tupOf_a, itemsOf_t, itemsOf_l, dSl_l, dSl_t, dSlL_ap, dCatL_ap, dIsN_ap, rng1_ap, rng2_ap, dRange_1, dRange_2, dRange3_ap, ownB_ap, ownT_ap, ownN_ap, eqI_ap, isC_y, il_int, il_bl, il_str, il_non, il_tup, il_lst, il_armD, il_ins, il_dic, il_ar, il_rig, Bool.false_eq_true, if_false, if_true, Res.bind_ok, Res.bind_bad, Res.out_ok, Res.out_bad, Res.calm_ok, List.map_cons, List.map_nil, List.length_cons, List.length_nil, Nat.reduceAdd, Nat.reduceSub, List.replicate, List.cons_append, List.nil_append, List.getElem?_cons_zero, List.getElem?_cons_succ, List.set_cons_succ, List.set_cons_zero, Bool.true_and, Bool.and_true, Bool.not_false, Bool.not_true, List.contains_nil, Option.bind_some, for_ap, lc_ap, Nat.reduceEqDiff, Nat.reduceLeDiff, Bool.false_xor, Bool.true_xor, and_self, decide_true, decide_false, List.lookup, List.all_cons, List.all_nil, List.contains_cons, Nat.reduceBEq, Bool.or_false, Bool.false_or, Bool.or_true, Bool.true_or, beq_self_eq_true, List.contains_nil, arD]
  rw [lcG_map prD (fun p => .int (p.2 * pos (h - p.1))) fun p hp => ⟨_, rfl, ?_⟩]
  · simp only [calmF_ap, le_line, lt_line, var_ap, c_ap, op_ap, un_ap, b_ap, and_ap, or_ap, not_ap, if_ap, andV_ap, orV_ap, ch_ap, nil_ap, cons_ap, star_ap, tup_ap, lst_ap, arm_ap, cb_ap, noPart_ap, part_ap, sl_ap, slL_ap, call_ap, callL_ap, mk_ap, fld_ap, prop_ap, meth_ap, callI_ap, get2_ap, dnew_ap, it_ap, itA_ap, yes_ap, next_ap, seq_ap, set_ap, setO_ap, drop_ap, ret_ap, retN_ap, brk_ap, cnt_ap, never_ap, ifS_ap, aug_ap, app_ap, ext_ap, pop_ap, par_ap, asg_ap, dset_ap, stF_ap, fldL_ap, see_f, see_g, okM_f, okM_g, okR_f, okR_g, okO_f, okO_g, hide_nil, hide_cons, setAll_cons, setAll_nil, wipe_nil, wipe_cons, runB_ap, runL_ap, startL_ap, startD_ap, out1_nx, out1_rt, dName_ap, dGTup_ap, dGLst_ap, dGCons_ap, dGNil_ap, dAdd_ap, dSub_ap, dMul_ap, dFdiv_ap, dMod_ap, dLt_ap, dLe_ap, dGt_ap, dGe_ap, bOf_ap, dNeg_ap, dNot_ap, eqS_int, eqS_bl, eqS_str, dInt1_ap, dInt1_bl, dMax2_ap, dMin2_ap, dAbs_ap, dSum_ap, dAny_ap, dAll_ap, dLen_l, dLen_t, dLen_a, dIx_l, dIx_t, dIx_a, dTup_ap, dLst_ap, dArm_ap, dList_l, dList_t, dTupl_ap, dTupA_ap, lstOf_ap, tupOf_t, tupOf_a, itemsOf_t, itemsOf_l, dSl_l, dSl_t, dSlL_ap, dCatL_ap, dIsN_ap, rng1_ap, rng2_ap, dRange_1, dRange_2, dRange3_ap, ownB_ap, ownT_ap, ownN_ap, eqI_ap, isC_y, il_int, il_bl, il_str, il_non, il_tup, il_lst, il_armD, il_ins, il_dic, il_ar, il_rig, Bool.false_eq_true, if_false, if_true, Res.bind_ok, Res.bind_bad, Res.out_ok, Res.out_bad, Res.calm_ok, List.map_cons, List.map_nil, List.length_cons, List.length_nil, Nat.reduceAdd, Nat.reduceSub, List.replicate, List.cons_append, List.nil_append, List.getElem?_cons_zero, List.getElem?_cons_succ, List.set_cons_succ, List.set_cons_zero, Bool.true_and, Bool.and_true, Bool.not_false, Bool.not_true, List.contains_nil, Option.bind_some, for_ap, lc_ap, Nat.reduceEqDiff, Nat.reduceLeDiff, Bool.false_xor, Bool.true_xor, and_self, decide_true, decide_false, List.lookup, List.all_cons, List.all_nil, List.contains_cons, Nat.reduceBEq, Bool.or_false, Bool.false_or, Bool.or_true, Bool.true_or, beq_self_eq_true, List.contains_nil, List.length_map, fa.line]
    rw [intsOf_of]
    rfl
  · have := cmul_l (j := pos (h - p.1)) (fa.small p hp)
    simp only [calmF_ap, le_line, lt_line, var_ap, c_ap, op_ap, un_ap, b_ap, and_ap, or_ap, not_ap, if_ap, andV_ap, orV_ap, ch_ap, nil_ap, cons_ap, star_ap, tup_ap, lst_ap, arm_ap, cb_ap, noPart_ap, part_ap, sl_ap, slL_ap, call_ap, callL_ap, mk_ap, fld_ap, prop_ap, meth_ap, callI_ap, get2_ap, dnew_ap, it_ap, itA_ap, yes_ap, next_ap, seq_ap, set_ap, setO_ap, drop_ap, ret_ap, retN_ap, brk_ap, cnt_ap, never_ap, ifS_ap, aug_ap, app_ap, ext_ap, pop_ap, par_ap, asg_ap, dset_ap, stF_ap, fldL_ap, see_f, see_g, okM_f, okM_g, okR_f, okR_g, okO_f, okO_g, hide_nil, hide_cons, setAll_cons, setAll_nil, wipe_nil, wipe_cons, runB_ap, runL_ap, startL_ap, startD_ap, out1_nx, out1_rt, dName_ap, dGTup_ap, dGLst_ap, dGCons_ap, dGNil_ap, dAdd_ap, dSub_ap, dMul_ap, dFdiv_ap, dMod_ap, dLt_ap, dLe_ap, dGt_ap, dGe_ap, bOf_ap, dNeg_ap, dNot_ap, eqS_int, eqS_bl, eqS_str, dInt1_ap, dInt1_bl, dMax2_ap, dMin2_ap, dAbs_ap, dSum_ap, dAny_ap, dAll_ap, dLen_l, dLen_t, dLen_a, dIx_l, dIx_t, dIx_a, dTup_ap, dLst_ap, dArm_ap, dList_l, dList_t, dTupl_ap, dTupA_ap, lstOf_ap, tupOf_t, tupOf_a, itemsOf_t, itemsOf_l, dSl_l, dSl_t, dSlL_ap, dCatL_ap, dIsN_ap, rng1_ap, rng2_ap, dRange_1, dRange_2, dRange3_ap, ownB_ap, ownT_ap, ownN_ap, eqI_ap, isC_y, il_int, il_bl, il_str, il_non, il_tup, il_lst, il_armD, il_ins, il_dic, il_ar, il_rig, Bool.false_eq_true, if_false, if_true, Res.bind_ok, Res.bind_bad, Res.out_ok, Res.out_bad, Res.calm_ok, List.map_cons, List.map_nil, List.length_cons, List.length_nil, Nat.reduceAdd, Nat.reduceSub, List.replicate, List.cons_append, List.nil_append, List.getElem?_cons_zero, List.getElem?_cons_succ, List.set_cons_succ, List.set_cons_zero, Bool.true_and, Bool.and_true, Bool.not_false, Bool.not_true, List.contains_nil, Option.bind_some, for_ap, lc_ap, Nat.reduceEqDiff, Nat.reduceLeDiff, Bool.false_xor, Bool.true_xor, and_self, decide_true, decide_false, List.lookup, List.all_cons, List.all_nil, List.contains_cons, Nat.reduceBEq, Bool.or_false, Bool.false_or, Bool.or_true, Bool.true_or, beq_self_eq_true, List.contains_nil]
    unfold pos at this ⊢
    simp only [this, if_true]
theorem e_pull_of {a : Arms} {R : Rs} (hl : a.length ≤ sizeLine) : f_pull_of [arD a] R = .ok (.int (pull a)) R := by
  unfold f_pull_of
  refine pureF_ok ?_
  unfold m_pull_of
  simp only [calmF_ap, le_line, lt_line, var_ap, c_ap, op_ap, un_ap, b_ap, and_ap, or_ap, not_ap, if_ap, andV_ap, orV_ap, ch_ap, nil_ap, cons_ap, star_ap, tup_ap, lst_ap, arm_ap, cb_ap, noPart_ap, part_ap, sl_ap, slL_ap, call_ap, callL_ap, mk_ap, fld_ap, prop_ap, meth_ap, callI_ap, get2_ap, dnew_ap, it_ap, itA_ap, yes_ap, next_ap, seq_ap, set_ap, setO_ap, drop_ap, ret_ap, retN_ap, brk_ap, cnt_ap, never_ap, ifS_ap, aug_ap, app_ap, ext_ap, pop_ap, par_ap, asg_ap, dset_ap, stF_ap, fldL_ap, see_f, see_g, okM_f, okM_g, okR_f, okR_g, okO_f, okO_g, hide_nil, hide_cons, setAll_cons, setAll_nil, wipe_nil, wipe_cons, runB_ap, runL_ap, startL_ap, startD_ap, out1_nx, out1_rt, dName_ap, dGTup_ap, dGLst_ap, dGCons_ap, dGNil_ap, dAdd_ap, dSub_ap, dMul_ap, dFdiv_ap, dMod_ap, dLt_ap, dLe_ap, dGt_ap, dGe_ap, bOf_ap, dNeg_ap, dNot_ap, eqS_int, eqS_bl, eqS_str, dInt1_ap, dInt1_bl, dMax2_ap, dMin2_ap, dAbs_ap, dSum_ap, dAny_ap, dAll_ap, dLen_l, dLen_t, dLen_a, dIx_l, dIx_t, dIx_a, dTup_ap, dLst_ap, dArm_ap, dList_l, dList_t, dTupl_ap, dTupA_ap, lstOf_ap, tupOf_t, tupOf_a, itemsOf_t, itemsOf_l, dSl_l, dSl_t, dSlL_ap, dCatL_ap, dIsN_ap, rng1_ap, rng2_ap, dRange_1, dRange_2, dRange3_ap, ownB_ap, ownT_ap, ownN_ap, eqI_ap, isC_y, il_int, il_bl, il_str, il_non, il_tup, il_lst, il_armD, il_ins, il_dic, il_ar, il_rig, Bool.false_eq_true, if_false, if_true, Res.bind_ok, Res.bind_bad, Res.out_ok, Res.out_bad, Res.calm_ok, List.map_cons, List.map_nil, List.length_cons, List.length_nil, Nat.reduceAdd, Nat.reduceSub, List.replicate, List.cons_append, List.nil_append, List.getElem?_cons_zero, List.getElem?_cons_succ, List.set_cons_succ, List.set_cons_zero, Bool.true_and, Bool.and_true, Bool.not_false, Bool.not_true, List.contains_nil, Option.bind_some, for_ap, lc_ap, Nat.reduceEqDiff, Nat.reduceLeDiff, Bool.false_xor, Bool.true_xor, and_self, decide_true, decide_false, List.lookup, List.all_cons, List.all_nil, List.contains_cons, Nat.reduceBEq, Bool.or_false, Bool.false_or, Bool.or_true, Bool.true_or, beq_self_eq_true, List.contains_nil, arD]
  rw [lcG_map prD (fun p => .int p.2) fun p hp => ⟨_, rfl, ?_⟩]
  · simp only [calmF_ap, le_line, lt_line, var_ap, c_ap, op_ap, un_ap, b_ap, and_ap, or_ap, not_ap, if_ap, andV_ap, orV_ap, ch_ap, nil_ap, cons_ap, star_ap, tup_ap, lst_ap, arm_ap, cb_ap, noPart_ap, part_ap, sl_ap, slL_ap, call_ap, callL_ap, mk_ap, fld_ap, prop_ap, meth_ap, callI_ap, get2_ap, dnew_ap, it_ap, itA_ap, yes_ap, next_ap, seq_ap, set_ap, setO_ap, drop_ap, ret_ap, retN_ap, brk_ap, cnt_ap, never_ap, ifS_ap, aug_ap, app_ap, ext_ap, pop_ap, par_ap, asg_ap, dset_ap, stF_ap, fldL_ap, see_f, see_g, okM_f, okM_g, okR_f, okR_g, okO_f, okO_g, hide_nil, hide_cons, setAll_cons, setAll_nil, wipe_nil, wipe_cons, runB_ap, runL_ap, startL_ap, startD_ap, out1_nx, out1_rt, dName_ap, dGTup_ap, dGLst_ap, dGCons_ap, dGNil_ap, dAdd_ap, dSub_ap, dMul_ap, dFdiv_ap, dMod_ap, dLt_ap, dLe_ap, dGt_ap, dGe_ap, bOf_ap, dNeg_ap, dNot_ap, eqS_int, eqS_bl, eqS_str, dInt1_ap, dInt1_bl, dMax2_ap, dMin2_ap, dAbs_ap, dSum_ap, dAny_ap, dAll_ap, dLen_l, dLen_t, dLen_a, dIx_l, dIx_t, dIx_a, dTup_ap, dLst_ap, dArm_ap, dList_l, dList_t, dTupl_ap, dTupA_ap, lstOf_ap, tupOf_t, tupOf_a, itemsOf_t, itemsOf_l, dSl_l, dSl_t, dSlL_ap, dCatL_ap, dIsN_ap, rng1_ap, rng2_ap, dRange_1, dRange_2, dRange3_ap, ownB_ap, ownT_ap, ownN_ap, eqI_ap, isC_y, il_int, il_bl, il_str, il_non, il_tup, il_lst, il_armD, il_ins, il_dic, il_ar, il_rig, Bool.false_eq_true, if_false, if_true, Res.bind_ok, Res.bind_bad, Res.out_ok, Res.out_bad, Res.calm_ok, List.map_cons, List.map_nil, List.length_cons, List.length_nil, Nat.reduceAdd, Nat.reduceSub, List.replicate, List.cons_append, List.nil_append, List.getElem?_cons_zero, List.getElem?_cons_succ, List.set_cons_succ, List.set_cons_zero, Bool.true_and, Bool.and_true, Bool.not_false, Bool.not_true, List.contains_nil, Option.bind_some, for_ap, lc_ap, Nat.reduceEqDiff, Nat.reduceLeDiff, Bool.false_xor, Bool.true_xor, and_self, decide_true, decide_false, List.lookup, List.all_cons, List.all_nil, List.contains_cons, Nat.reduceBEq, Bool.or_false, Bool.false_or, Bool.or_true, Bool.true_or, beq_self_eq_true, List.contains_nil, List.length_map, hl]
    rw [intsOf_of]
    rfl
  · simp only [calmF_ap, le_line, lt_line, var_ap, c_ap, op_ap, un_ap, b_ap, and_ap, or_ap, not_ap, if_ap, andV_ap, orV_ap, ch_ap, nil_ap, cons_ap, star_ap, tup_ap, lst_ap, arm_ap, cb_ap, noPart_ap, part_ap, sl_ap, slL_ap, call_ap, callL_ap, mk_ap, fld_ap, prop_ap, meth_ap, callI_ap, get2_ap, dnew_ap, it_ap, itA_ap, yes_ap, next_ap, seq_ap, set_ap, setO_ap, drop_ap, ret_ap, retN_ap, brk_ap, cnt_ap, never_ap, ifS_ap, aug_ap, app_ap, ext_ap, pop_ap, par_ap, asg_ap, dset_ap, stF_ap, fldL_ap, see_f, see_g, okM_f, okM_g, okR_f, okR_g, okO_f, okO_g, hide_nil, hide_cons, setAll_cons, setAll_nil, wipe_nil, wipe_cons, runB_ap, runL_ap, startL_ap, startD_ap, out1_nx, out1_rt, dName_ap, dGTup_ap, dGLst_ap, dGCons_ap, dGNil_ap, dAdd_ap, dSub_ap, dMul_ap, dFdiv_ap, dMod_ap, dLt_ap, dLe_ap, dGt_ap, dGe_ap, bOf_ap, dNeg_ap, dNot_ap, eqS_int, eqS_bl, eqS_str, dInt1_ap, dInt1_bl, dMax2_ap, dMin2_ap, dAbs_ap, dSum_ap, dAny_ap, dAll_ap, dLen_l, dLen_t, dLen_a, dIx_l, dIx_t, dIx_a, dTup_ap, dLst_ap, dArm_ap, dList_l, dList_t, dTupl_ap, dTupA_ap, lstOf_ap, tupOf_t, tupOf_a, itemsOf_t, itemsOf_l, dSl_l, dSl_t, dSlL_ap, dCatL_ap, dIsN_ap, rng1_ap, rng2_ap, dRange_1, dRange_2, dRange3_ap, ownB_ap, ownT_ap, ownN_ap, eqI_ap, isC_y, il_int, il_bl, il_str, il_non, il_tup, il_lst, il_armD, il_ins, il_dic, il_ar, il_rig, Bool.false_eq_true, if_false, if_true, Res.bind_ok, Res.bind_bad, Res.out_ok, Res.out_bad, Res.calm_ok, List.map_cons, List.map_nil, List.length_cons, List.length_nil, Nat.reduceAdd, Nat.reduceSub, List.replicate, List.cons_append, List.nil_append, List.getElem?_cons_zero, List.getElem?_cons_succ, List.set_cons_succ, List.set_cons_zero, Bool.true_and, Bool.and_true, Bool.not_false, Bool.not_true, List.contains_nil, Option.bind_some, for_ap, lc_ap, Nat.reduceEqDiff, Nat.reduceLeDiff, Bool.false_xor, Bool.true_xor, and_self, decide_true, decide_false, List.lookup, List.all_cons, List.all_nil, List.contains_cons, Nat.reduceBEq, Bool.or_false, Bool.false_or, Bool.or_true, Bool.true_or, beq_self_eq_true, List.contains_nil]
theorem nf_loop {x : Option D} {R : Rs} : ∀ (a : Arms) (t : Int) (b : Bool) (u v : Option D), ∃ t' u' v', loopG (dGTup 2 (dGCons (dName 3) (dGCons (dName 4) dGNil))) (gSeq (gAug .f [] 2 dAdd (gCB dInt1 (Pv.gCons (gVar 4) Pv.gNil))) (gSet .f [] 1 (gAndV (gVar 1) (gOp dGe (gVar 2) (gC (.int 0)))))) (a.map prD) [x, some (.bl b), some (.int t), u, v] R = .nx [x, some (.bl (b && nf a t)), some (.int t'), u', v'] R
  | [], t, b, u, v => ⟨t, u, v, by simp [loopG, nf]⟩
  | p :: a, t, b, u, v => by
    obtain ⟨t', u', v', h⟩ := nf_loop (x := x) (R := R) a (t + p.2) (b && decide (0 ≤ t + p.2)) (some (.int p.1)) (some (.int p.2))
    refine ⟨t', u', v', ?_⟩
    rw [List.map_cons, loopG]
    cases b <;> simp only [prD, calmF_ap, le_line, lt_line, var_ap, c_ap, op_ap, un_ap, b_ap, and_ap, or_ap, not_ap, if_ap, andV_ap, orV_ap, ch_ap, nil_ap, cons_ap, star_ap, tup_ap, lst_ap, arm_ap, cb_ap, noPart_ap, part_ap, sl_ap, slL_ap, call_ap, callL_ap, mk_ap, fld_ap, prop_ap, meth_ap, callI_ap, get2_ap, dnew_ap, it_ap, itA_ap, yes_ap, next_ap, seq_ap, set_ap, setO_ap, drop_ap, ret_ap, retN_ap, brk_ap, cnt_ap, never_ap, ifS_ap, aug_ap, app_ap, ext_ap, pop_ap, par_ap, asg_ap, dset_ap, stF_ap, fldL_ap, see_f, see_g, okM_f, okM_g, okR_f, okR_g, okO_f, okO_g, hide_nil, hide_cons, setAll_cons, setAll_nil, wipe_nil, wipe_cons, runB_ap, runL_ap, startL_ap, startD_ap, out1_nx, out1_rt, dName_ap, dGTup_ap, dGLst_ap, dGCons_ap, dGNil_ap, dAdd_ap, dSub_ap, dMul_ap, dFdiv_ap, dMod_ap, dLt_ap, dLe_ap, dGt_ap, dGe_ap, bOf_ap, dNeg_ap, dNot_ap, eqS_int, eqS_bl, eqS_str, dInt1_ap, dInt1_bl, dMax2_ap, dMin2_ap, dAbs_ap, dSum_ap, dAny_ap, dAll_ap, dLen_l, dLen_t, dLen_a, dIx_l, dIx_t, dIx_a, dTup_ap, dLst_ap, dArm_ap, dList_l, dList_t, dTupl_ap, dTupA_ap, lstOf_ap, tupOf_t, tupOf_a, itemsOf_t, itemsOf_l, dSl_l, dSl_t, dSlL_ap, dCatL_ap, dIsN_ap, rng1_ap, rng2_ap, dRange_1, dRange_2, dRange3_ap, ownB_ap, ownT_ap, ownN_ap, eqI_ap, isC_y, il_int, il_bl, il_str, il_non, il_tup, il_lst, il_armD, il_ins, il_dic, il_ar, il_rig, Bool.false_eq_true, if_false, if_true, Res.bind_ok, Res.bind_bad, Res.out_ok, Res.out_bad, Res.calm_ok, List.map_cons, List.map_nil, List.length_cons, List.length_nil, Nat.reduceAdd, Nat.reduceSub, List.replicate, List.cons_append, List.nil_append, List.getElem?_cons_zero, List.getElem?_cons_succ, List.set_cons_succ, List.set_cons_zero, Bool.true_and, Bool.and_true, Bool.not_false, Bool.not_true, List.contains_nil, Option.bind_some, for_ap, lc_ap, Nat.reduceEqDiff, Nat.reduceLeDiff, Bool.false_xor, Bool.true_xor, and_self, decide_true, decide_false, List.lookup, List.all_cons, List.all_nil, List.contains_cons, Nat.reduceBEq, Bool.or_false, Bool.false_or, Bool.or_true, Bool.true_or, beq_self_eq_true, List.contains_nil, nf, Bool.and_assoc, Bool.false_and] at h ⊢ <;> exact h
theorem e_never_falls {a : Arms} {R : Rs} : f_never_falls [arD a] R = .ok (.bl (nf a 0)) R := by
  unfold f_never_falls
  refine pureF_ok ?_
  unfold m_never_falls
  simp only [calmF_ap, le_line, lt_line, var_ap, c_ap, op_ap, un_ap, b_ap, and_ap, or_ap, not_ap, if_ap, andV_ap, orV_ap, ch_ap, nil_ap, cons_ap, star_ap, tup_ap, lst_ap, arm_ap, cb_ap, noPart_ap, part_ap, sl_ap, slL_ap, call_ap, callL_ap, mk_ap, fld_ap, prop_ap, meth_ap, callI_ap, get2_ap, dnew_ap, it_ap, itA_ap, yes_ap, next_ap, seq_ap, set_ap, setO_ap, drop_ap, ret_ap, retN_ap, brk_ap, cnt_ap, never_ap, ifS_ap, aug_ap, app_ap, ext_ap, pop_ap, par_ap, asg_ap, dset_ap, stF_ap, fldL_ap, see_f, see_g, okM_f, okM_g, okR_f, okR_g, okO_f, okO_g, hide_nil, hide_cons, setAll_cons, setAll_nil, wipe_nil, wipe_cons, runB_ap, runL_ap, startL_ap, startD_ap, out1_nx, out1_rt, dName_ap, dGTup_ap, dGLst_ap, dGCons_ap, dGNil_ap, dAdd_ap, dSub_ap, dMul_ap, dFdiv_ap, dMod_ap, dLt_ap, dLe_ap, dGt_ap, dGe_ap, bOf_ap, dNeg_ap, dNot_ap, eqS_int, eqS_bl, eqS_str, dInt1_ap, dInt1_bl, dMax2_ap, dMin2_ap, dAbs_ap, dSum_ap, dAny_ap, dAll_ap, dLen_l, dLen_t, dLen_a, dIx_l, dIx_t, dIx_a, dTup_ap, dLst_ap, dArm_ap, dList_l, dList_t, dTupl_ap, dTupA_ap, lstOf_ap, tupOf_t, tupOf_a, itemsOf_t, itemsOf_l, dSl_l, dSl_t, dSlL_ap, dCatL_ap, dIsN_ap, rng1_ap, rng2_ap, dRange_1, dRange_2, dRange3_ap, ownB_ap, ownT_ap, ownN_ap, eqI_ap, isC_y, il_int, il_bl, il_str, il_non, il_tup, il_lst, il_armD, il_ins, il_dic, il_ar, il_rig, Bool.false_eq_true, if_false, if_true, Res.bind_ok, Res.bind_bad, Res.out_ok, Res.out_bad, Res.calm_ok, List.map_cons, List.map_nil, List.length_cons, List.length_nil, Nat.reduceAdd, Nat.reduceSub, List.replicate, List.cons_append, List.nil_append, List.getElem?_cons_zero, List.getElem?_cons_succ, List.set_cons_succ, List.set_cons_zero, Bool.true_and, Bool.and_true, Bool.not_false, Bool.not_true, List.contains_nil, Option.bind_some, for_ap, lc_ap, Nat.reduceEqDiff, Nat.reduceLeDiff, Bool.false_xor, Bool.true_xor, and_self, decide_true, decide_false, List.lookup, List.all_cons, List.all_nil, List.contains_cons, Nat.reduceBEq, Bool.or_false, Bool.false_or, Bool.or_true, Bool.true_or, beq_self_eq_true, List.contains_nil, arD]
  obtain ⟨t', u', v', h⟩ := nf_loop (x := some (.arm (a.map prD))) (R := []) a 0 true none none
  rw [h]
  simp only [calmF_ap, le_line, lt_line, var_ap, c_ap, op_ap, un_ap, b_ap, and_ap, or_ap, not_ap, if_ap, andV_ap, orV_ap, ch_ap, nil_ap, cons_ap, star_ap, tup_ap, lst_ap, arm_ap, cb_ap, noPart_ap, part_ap, sl_ap, slL_ap, call_ap, callL_ap, mk_ap, fld_ap, prop_ap, meth_ap, callI_ap, get2_ap, dnew_ap, it_ap, itA_ap, yes_ap, next_ap, seq_ap, set_ap, setO_ap, drop_ap, ret_ap, retN_ap, brk_ap, cnt_ap, never_ap, ifS_ap, aug_ap, app_ap, ext_ap, pop_ap, par_ap, asg_ap, dset_ap, stF_ap, fldL_ap, see_f, see_g, okM_f, okM_g, okR_f, okR_g, okO_f, okO_g, hide_nil, hide_cons, setAll_cons, setAll_nil, wipe_nil, wipe_cons, runB_ap, runL_ap, startL_ap, startD_ap, out1_nx, out1_rt, dName_ap, dGTup_ap, dGLst_ap, dGCons_ap, dGNil_ap, dAdd_ap, dSub_ap, dMul_ap, dFdiv_ap, dMod_ap, dLt_ap, dLe_ap, dGt_ap, dGe_ap, bOf_ap, dNeg_ap, dNot_ap, eqS_int, eqS_bl, eqS_str, dInt1_ap, dInt1_bl, dMax2_ap, dMin2_ap, dAbs_ap, dSum_ap, dAny_ap, dAll_ap, dLen_l, dLen_t, dLen_a, dIx_l, dIx_t, dIx_a, dTup_ap, dLst_ap, dArm_ap, dList_l, dList_t, dTupl_ap, dTupA_ap, lstOf_ap, tupOf_t, tupOf_a, itemsOf_t, itemsOf_l, dSl_l, dSl_t, dSlL_ap, dCatL_ap, dIsN_ap, rng1_ap, rng2_ap, dRange_1, dRange_2, dRange3_ap, ownB_ap, ownT_ap, ownN_ap, eqI_ap, isC_y, il_int, il_bl, il_str, il_non, il_tup, il_lst, il_armD, il_ins, il_dic, il_ar, il_rig, Bool.false_eq_true, if_false, if_true, Res.bind_ok, Res.bind_bad, Res.out_ok, Res.out_bad, Res.calm_ok, List.map_cons, List.map_nil, List.length_cons, List.length_nil, Nat.reduceAdd, Nat.reduceSub, List.replicate, List.cons_append, List.nil_append, List.getElem?_cons_zero, List.getElem?_cons_succ, List.set_cons_succ, List.set_cons_zero, Bool.true_and, Bool.and_true, Bool.not_false, Bool.not_true, List.contains_nil, Option.bind_some, for_ap, lc_ap, Nat.reduceEqDiff, Nat.reduceLeDiff, Bool.false_xor, Bool.true_xor, and_self, decide_true, decide_false, List.lookup, List.all_cons, List.all_nil, List.contains_cons, Nat.reduceBEq, Bool.or_false, Bool.false_or, Bool.or_true, Bool.true_or, beq_self_eq_true, List.contains_nil]
/-! ### tables of weights -/
def wD (ws : Arms) : D := .dic (ws.map fun p => (Sum.inl p.1, .int p.2))
theorem iks_w : ∀ ws : Arms, iksOf (ws.map fun p => (Sum.inl p.1, D.int p.2)) = some (ws.map (·.1))
  | [] => rfl
  | p :: ws => by simp [iksOf, iks_w ws]
theorem val_w : ∀ (ws : Arms) (s : Int), valD (ws.map fun p => ((Sum.inl p.1 : Key), D.int p.2)) (.inl s) = if s ∈ ws.map (·.1) then some (.int (look ws s)) else none
  | [], s => by simp [valD]
  | p :: ws, s => by
    have ih := val_w ws s
    unfold valD at ih ⊢
    rw [List.map_cons, List.find?_cons, look_cons]
    by_cases e : p.1 = s
    · subst e; simp
    · have : ¬ (Sum.inl p.1 : Key) = Sum.inl s := fun z => e (Sum.inl.inj z)
      simp only [this, decide_false, List.map_cons, List.mem_cons, e, Ne.symm e, false_or, if_false] at ih ⊢
      exact ih
theorem put_w (ws : Arms) (s w : Int) : putD (ws.map fun p => ((Sum.inl p.1 : Key), D.int p.2)) (.inl s) (.int w) = (put ws s w).map fun p => (Sum.inl p.1, D.int p.2) := by
  have e : ((ws.map fun p => ((Sum.inl p.1 : Key), D.int p.2)).any fun kv => decide (kv.1 = .inl s)) = (ws.any fun p => decide (p.1 = s)) := by
    rw [List.any_map]
    congr 1
    funext p
    simp only [Function.comp]
    exact decide_eq_decide.mpr ⟨fun z => Sum.inl.inj z, fun z => by rw [z]⟩
  unfold putD put
  rw [e]
  split
  · rw [List.map_map, List.map_map]
    apply List.map_congr_left
    intro p _
    simp only [Function.comp]
    by_cases h : p.1 = s
    · simp [h]
    · have : ¬ (Sum.inl p.1 : Key) = Sum.inl s := fun z => h (Sum.inl.inj z)
      simp [h, this]
  · simp
theorem get_w (ws : Arms) (s : Int) : (valD (ws.map fun p => ((Sum.inl p.1 : Key), D.int p.2)) (.inl s)).getD (.int 0) = .int (look ws s) := by
  rw [val_w]
  split
  · rfl
  · rename_i h
    have : look ws s = 0 := by
      unfold look
      have : ws.find? (fun p => decide (p.1 = s)) = none := List.find?_eq_none.mpr fun p hp => by
        have : p.1 ≠ s := fun z => h (z ▸ List.mem_map.mpr ⟨p, hp, rfl⟩)
        simpa using this
      rw [this]
    rw [this]; rfl
theorem sort_same (ks : List Int) : sortI ks = isort ks := rfl
theorem srt_eq (ws : Arms) : srt ws = ((isort (ws.map (·.1))).filter fun s => decide (look ws s ≠ 0)).map fun s => (s, look ws s) := by
  unfold srt
  rw [List.filter_map]
  rfl
theorem keyOf_int {i : Int} : keyOf (.int i) = some (.inl i) := rfl
theorem dget_ap {kvs : List (Key × D)} {y : D} {R : Rs} : dDGet (.dic kvs) y R = match keyOf y with
    | some k => match valD kvs k with
      | some d => .ok d R
      | none => .bad
    | none => .bad := rfl
theorem sortedD_ap {kvs : List (Key × D)} {R : Rs} : dSortedD [.dic kvs] R = match iksOf kvs with
    | some ks => .ok (.lst ((sortI ks).map D.int)) R
    | none => .bad := rfl
theorem e_sorted_arms {ws : Arms} {R : Rs} (hl : ws.length ≤ 100000) (fit : Fit (srt ws)) : f_sorted_arms [wD ws] R = .ok (arD (srt ws)) R := by
  unfold f_sorted_arms
  refine pureF_ok ?_
  unfold m_sorted_arms
  simp only [calmF_ap, le_line, lt_line, var_ap, c_ap, op_ap, un_ap, b_ap, and_ap, or_ap, not_ap, if_ap, andV_ap, orV_ap, ch_ap, nil_ap, cons_ap, star_ap, tup_ap, lst_ap, arm_ap, cb_ap, noPart_ap, part_ap, sl_ap, slL_ap, call_ap, callL_ap, mk_ap, fld_ap, prop_ap, meth_ap, callI_ap, get2_ap, dnew_ap, it_ap, itA_ap, yes_ap, next_ap, seq_ap, set_ap, setO_ap, drop_ap, ret_ap, retN_ap, brk_ap, cnt_ap, never_ap, ifS_ap, aug_ap, app_ap, ext_ap, pop_ap, par_ap, asg_ap, dset_ap, stF_ap, fldL_ap, see_f, see_g, okM_f, okM_g, okR_f, okR_g, okO_f, okO_g, hide_nil, hide_cons, setAll_cons, setAll_nil, wipe_nil, wipe_cons, runB_ap, runL_ap, startL_ap, startD_ap, out1_nx, out1_rt, dName_ap, dGTup_ap, dGLst_ap, dGCons_ap, dGNil_ap, dAdd_ap, dSub_ap, dMul_ap, dFdiv_ap, dMod_ap, dLt_ap, dLe_ap, dGt_ap, dGe_ap, bOf_ap, dNeg_ap, dNot_ap, eqS_int, eqS_bl, eqS_str, dInt1_ap, dInt1_bl, dMax2_ap, dMin2_ap, dAbs_ap, dSum_ap, dAny_ap, dAll_ap, dLen_l, dLen_t, dLen_a, dIx_l, dIx_t, dIx_a, dTup_ap, dLst_ap, dArm_ap, dList_l, dList_t, dTupl_ap, dTupA_ap, lstOf_ap, tupOf_t, tupOf_a, itemsOf_t, itemsOf_l, dSl_l, dSl_t, dSlL_ap, dCatL_ap, dIsN_ap, rng1_ap, rng2_ap, dRange_1, dRange_2, dRange3_ap, ownB_ap, ownT_ap, ownN_ap, eqI_ap, isC_y, il_int, il_bl, il_str, il_non, il_tup, il_lst, il_armD, il_ins, il_dic, il_ar, il_rig, Bool.false_eq_true, if_false, if_true, Res.bind_ok, Res.bind_bad, Res.out_ok, Res.out_bad, Res.calm_ok, List.map_cons, List.map_nil, List.length_cons, List.length_nil, Nat.reduceAdd, Nat.reduceSub, List.replicate, List.cons_append, List.nil_append, List.getElem?_cons_zero, List.getElem?_cons_succ, List.set_cons_succ, List.set_cons_zero, Bool.true_and, Bool.and_true, Bool.not_false, Bool.not_true, List.contains_nil, Option.bind_some, for_ap, lc_ap, Nat.reduceEqDiff, Nat.reduceLeDiff, Bool.false_xor, Bool.true_xor, and_self, decide_true, decide_false, List.lookup, List.all_cons, List.all_nil, List.contains_cons, Nat.reduceBEq, Bool.or_false, Bool.false_or, Bool.or_true, Bool.true_or, beq_self_eq_true, List.contains_nil, wD, sortedD_ap, iks_w, sort_same]
  have hlen : (isort (ws.map (·.1))).length = ws.length := by rw [(isort_perm _).length_eq, List.length_map]
  rw [lcG_filter D.int (fun s => prD (s, look ws s)) (fun s => decide (look ws s ≠ 0)) fun s hs => ⟨_, rfl, ?_, fun _ => ?_⟩]
  · have hz : (((isort (ws.map (·.1))).filter fun s => decide (look ws s ≠ 0)).map fun s => prD (s, look ws s)) = (srt ws).map prD := by rw [srt_eq, List.map_map]; rfl
    rw [hz]
    simp only [calmF_ap, le_line, lt_line, var_ap, c_ap, op_ap, un_ap, b_ap, and_ap, or_ap, not_ap, if_ap, andV_ap, orV_ap, ch_ap, nil_ap, cons_ap, star_ap, tup_ap, lst_ap, arm_ap, cb_ap, noPart_ap, part_ap, sl_ap, slL_ap, call_ap, callL_ap, mk_ap, fld_ap, prop_ap, meth_ap, callI_ap, get2_ap, dnew_ap, it_ap, itA_ap, yes_ap, next_ap, seq_ap, set_ap, setO_ap, drop_ap, ret_ap, retN_ap, brk_ap, cnt_ap, never_ap, ifS_ap, aug_ap, app_ap, ext_ap, pop_ap, par_ap, asg_ap, dset_ap, stF_ap, fldL_ap, see_f, see_g, okM_f, okM_g, okR_f, okR_g, okO_f, okO_g, hide_nil, hide_cons, setAll_cons, setAll_nil, wipe_nil, wipe_cons, runB_ap, runL_ap, startL_ap, startD_ap, out1_nx, out1_rt, dName_ap, dGTup_ap, dGLst_ap, dGCons_ap, dGNil_ap, dAdd_ap, dSub_ap, dMul_ap, dFdiv_ap, dMod_ap, dLt_ap, dLe_ap, dGt_ap, dGe_ap, bOf_ap, dNeg_ap, dNot_ap, eqS_int, eqS_bl, eqS_str, dInt1_ap, dInt1_bl, dMax2_ap, dMin2_ap, dAbs_ap, dSum_ap, dAny_ap, dAll_ap, dLen_l, dLen_t, dLen_a, dIx_l, dIx_t, dIx_a, dTup_ap, dLst_ap, dArm_ap, dList_l, dList_t, dTupl_ap, dTupA_ap, lstOf_ap, tupOf_t, tupOf_a, itemsOf_t, itemsOf_l, dSl_l, dSl_t, dSlL_ap, dCatL_ap, dIsN_ap, rng1_ap, rng2_ap, dRange_1, dRange_2, dRange3_ap, ownB_ap, ownT_ap, ownN_ap, eqI_ap, isC_y, il_int, il_bl, il_str, il_non, il_tup, il_lst, il_armD, il_ins, il_dic, il_ar, il_rig, Bool.false_eq_true, if_false, if_true, Res.bind_ok, Res.bind_bad, Res.out_ok, Res.out_bad, Res.calm_ok, List.map_cons, List.map_nil, List.length_cons, List.length_nil, Nat.reduceAdd, Nat.reduceSub, List.replicate, List.cons_append, List.nil_append, List.getElem?_cons_zero, List.getElem?_cons_succ, List.set_cons_succ, List.set_cons_zero, Bool.true_and, Bool.and_true, Bool.not_false, Bool.not_true, List.contains_nil, Option.bind_some, for_ap, lc_ap, Nat.reduceEqDiff, Nat.reduceLeDiff, Bool.false_xor, Bool.true_xor, and_self, decide_true, decide_false, List.lookup, List.all_cons, List.all_nil, List.contains_cons, Nat.reduceBEq, Bool.or_false, Bool.false_or, Bool.or_true, Bool.true_or, beq_self_eq_true, List.contains_nil, List.length_map, fit.line]
    rw [lcG_map prD (fun p => .bl (decide (1000000 < (if p.2 < 0 then -p.2 else p.2)) || decide (999 < p.1))) fun p hp => ⟨_, rfl, ?_⟩]
    · simp only [calmF_ap, le_line, lt_line, var_ap, c_ap, op_ap, un_ap, b_ap, and_ap, or_ap, not_ap, if_ap, andV_ap, orV_ap, ch_ap, nil_ap, cons_ap, star_ap, tup_ap, lst_ap, arm_ap, cb_ap, noPart_ap, part_ap, sl_ap, slL_ap, call_ap, callL_ap, mk_ap, fld_ap, prop_ap, meth_ap, callI_ap, get2_ap, dnew_ap, it_ap, itA_ap, yes_ap, next_ap, seq_ap, set_ap, setO_ap, drop_ap, ret_ap, retN_ap, brk_ap, cnt_ap, never_ap, ifS_ap, aug_ap, app_ap, ext_ap, pop_ap, par_ap, asg_ap, dset_ap, stF_ap, fldL_ap, see_f, see_g, okM_f, okM_g, okR_f, okR_g, okO_f, okO_g, hide_nil, hide_cons, setAll_cons, setAll_nil, wipe_nil, wipe_cons, runB_ap, runL_ap, startL_ap, startD_ap, out1_nx, out1_rt, dName_ap, dGTup_ap, dGLst_ap, dGCons_ap, dGNil_ap, dAdd_ap, dSub_ap, dMul_ap, dFdiv_ap, dMod_ap, dLt_ap, dLe_ap, dGt_ap, dGe_ap, bOf_ap, dNeg_ap, dNot_ap, eqS_int, eqS_bl, eqS_str, dInt1_ap, dInt1_bl, dMax2_ap, dMin2_ap, dAbs_ap, dSum_ap, dAny_ap, dAll_ap, dLen_l, dLen_t, dLen_a, dIx_l, dIx_t, dIx_a, dTup_ap, dLst_ap, dArm_ap, dList_l, dList_t, dTupl_ap, dTupA_ap, lstOf_ap, tupOf_t, tupOf_a, itemsOf_t, itemsOf_l, dSl_l, dSl_t, dSlL_ap, dCatL_ap, dIsN_ap, rng1_ap, rng2_ap, dRange_1, dRange_2, dRange3_ap, ownB_ap, ownT_ap, ownN_ap, eqI_ap, isC_y, il_int, il_bl, il_str, il_non, il_tup, il_lst, il_armD, il_ins, il_dic, il_ar, il_rig, Bool.false_eq_true, if_false, if_true, Res.bind_ok, Res.bind_bad, Res.out_ok, Res.out_bad, Res.calm_ok, List.map_cons, List.map_nil, List.length_cons, List.length_nil, Nat.reduceAdd, Nat.reduceSub, List.replicate, List.cons_append, List.nil_append, List.getElem?_cons_zero, List.getElem?_cons_succ, List.set_cons_succ, List.set_cons_zero, Bool.true_and, Bool.and_true, Bool.not_false, Bool.not_true, List.contains_nil, Option.bind_some, for_ap, lc_ap, Nat.reduceEqDiff, Nat.reduceLeDiff, Bool.false_xor, Bool.true_xor, and_self, decide_true, decide_false, List.lookup, List.all_cons, List.all_nil, List.contains_cons, Nat.reduceBEq, Bool.or_false, Bool.false_or, Bool.or_true, Bool.true_or, beq_self_eq_true, List.contains_nil, List.length_map, fit.line]
      rw [blsOf_of]
      have h1 : ¬ (60 : Int) < ((srt ws).length : Int) := by have := fit.len; omega
      have h2 : (((srt ws).map fun p => decide (1000000 < (if p.2 < 0 then -p.2 else p.2)) || decide (999 < p.1)).any id) = false := by
        rw [List.any_eq_false]
        intro b hb
        obtain ⟨p, hp, rfl⟩ := List.mem_map.mp hb
        have a1 := fit.arm p hp
        have a2 := fit.deep p hp
        have : ¬ (1000000 < (if p.2 < 0 then -p.2 else p.2)) := by split <;> omega
        have : ¬ (999 < p.1) := by omega
        simp [*]
      simp only [h1, decide_false, h2, calmF_ap, le_line, lt_line, var_ap, c_ap, op_ap, un_ap, b_ap, and_ap, or_ap, not_ap, if_ap, andV_ap, orV_ap, ch_ap, nil_ap, cons_ap, star_ap, tup_ap, lst_ap, arm_ap, cb_ap, noPart_ap, part_ap, sl_ap, slL_ap, call_ap, callL_ap, mk_ap, fld_ap, prop_ap, meth_ap, callI_ap, get2_ap, dnew_ap, it_ap, itA_ap, yes_ap, next_ap, seq_ap, set_ap, setO_ap, drop_ap, ret_ap, retN_ap, brk_ap, cnt_ap, never_ap, ifS_ap, aug_ap, app_ap, ext_ap, pop_ap, par_ap, asg_ap, dset_ap, stF_ap, fldL_ap, see_f, see_g, okM_f, okM_g, okR_f, okR_g, okO_f, okO_g, hide_nil, hide_cons, setAll_cons, setAll_nil, wipe_nil, wipe_cons, runB_ap, runL_ap, startL_ap, startD_ap, out1_nx, out1_rt, dName_ap, dGTup_ap, dGLst_ap, dGCons_ap, dGNil_ap, dAdd_ap, dSub_ap, dMul_ap, dFdiv_ap, dMod_ap, dLt_ap, dLe_ap, dGt_ap, dGe_ap, bOf_ap, dNeg_ap, dNot_ap, eqS_int, eqS_bl, eqS_str, dInt1_ap, dInt1_bl, dMax2_ap, dMin2_ap, dAbs_ap, dSum_ap, dAny_ap, dAll_ap, dLen_l, dLen_t, dLen_a, dIx_l, dIx_t, dIx_a, dTup_ap, dLst_ap, dArm_ap, dList_l, dList_t, dTupl_ap, dTupA_ap, lstOf_ap, tupOf_t, tupOf_a, itemsOf_t, itemsOf_l, dSl_l, dSl_t, dSlL_ap, dCatL_ap, dIsN_ap, rng1_ap, rng2_ap, dRange_1, dRange_2, dRange3_ap, ownB_ap, ownT_ap, ownN_ap, eqI_ap, isC_y, il_int, il_bl, il_str, il_non, il_tup, il_lst, il_armD, il_ins, il_dic, il_ar, il_rig, Bool.false_eq_true, if_false, if_true, Res.bind_ok, Res.bind_bad, Res.out_ok, Res.out_bad, Res.calm_ok, List.map_cons, List.map_nil, List.length_cons, List.length_nil, Nat.reduceAdd, Nat.reduceSub, List.replicate, List.cons_append, List.nil_append, List.getElem?_cons_zero, List.getElem?_cons_succ, List.set_cons_succ, List.set_cons_zero, Bool.true_and, Bool.and_true, Bool.not_false, Bool.not_true, List.contains_nil, Option.bind_some, for_ap, lc_ap, Nat.reduceEqDiff, Nat.reduceLeDiff, Bool.false_xor, Bool.true_xor, and_self, decide_true, decide_false, List.lookup, List.all_cons, List.all_nil, List.contains_cons, Nat.reduceBEq, Bool.or_false, Bool.false_or, Bool.or_true, Bool.true_or, beq_self_eq_true, List.contains_nil]
      rfl
    · simp only [prD, calmF_ap, le_line, lt_line, var_ap, c_ap, op_ap, un_ap, b_ap, and_ap, or_ap, not_ap, if_ap, andV_ap, orV_ap, ch_ap, nil_ap, cons_ap, star_ap, tup_ap, lst_ap, arm_ap, cb_ap, noPart_ap, part_ap, sl_ap, slL_ap, call_ap, callL_ap, mk_ap, fld_ap, prop_ap, meth_ap, callI_ap, get2_ap, dnew_ap, it_ap, itA_ap, yes_ap, next_ap, seq_ap, set_ap, setO_ap, drop_ap, ret_ap, retN_ap, brk_ap, cnt_ap, never_ap, ifS_ap, aug_ap, app_ap, ext_ap, pop_ap, par_ap, asg_ap, dset_ap, stF_ap, fldL_ap, see_f, see_g, okM_f, okM_g, okR_f, okR_g, okO_f, okO_g, hide_nil, hide_cons, setAll_cons, setAll_nil, wipe_nil, wipe_cons, runB_ap, runL_ap, startL_ap, startD_ap, out1_nx, out1_rt, dName_ap, dGTup_ap, dGLst_ap, dGCons_ap, dGNil_ap, dAdd_ap, dSub_ap, dMul_ap, dFdiv_ap, dMod_ap, dLt_ap, dLe_ap, dGt_ap, dGe_ap, bOf_ap, dNeg_ap, dNot_ap, eqS_int, eqS_bl, eqS_str, dInt1_ap, dInt1_bl, dMax2_ap, dMin2_ap, dAbs_ap, dSum_ap, dAny_ap, dAll_ap, dLen_l, dLen_t, dLen_a, dIx_l, dIx_t, dIx_a, dTup_ap, dLst_ap, dArm_ap, dList_l, dList_t, dTupl_ap, dTupA_ap, lstOf_ap, tupOf_t, tupOf_a, itemsOf_t, itemsOf_l, dSl_l, dSl_t, dSlL_ap, dCatL_ap, dIsN_ap, rng1_ap, rng2_ap, dRange_1, dRange_2, dRange3_ap, ownB_ap, ownT_ap, ownN_ap, eqI_ap, isC_y, il_int, il_bl, il_str, il_non, il_tup, il_lst, il_armD, il_ins, il_dic, il_ar, il_rig, Bool.false_eq_true, if_false, if_true, Res.bind_ok, Res.bind_bad, Res.out_ok, Res.out_bad, Res.calm_ok, List.map_cons, List.map_nil, List.length_cons, List.length_nil, Nat.reduceAdd, Nat.reduceSub, List.replicate, List.cons_append, List.nil_append, List.getElem?_cons_zero, List.getElem?_cons_succ, List.set_cons_succ, List.set_cons_zero, Bool.true_and, Bool.and_true, Bool.not_false, Bool.not_true, List.contains_nil, Option.bind_some, for_ap, lc_ap, Nat.reduceEqDiff, Nat.reduceLeDiff, Bool.false_xor, Bool.true_xor, and_self, decide_true, decide_false, List.lookup, List.all_cons, List.all_nil, List.contains_cons, Nat.reduceBEq, Bool.or_false, Bool.false_or, Bool.or_true, Bool.true_or, beq_self_eq_true, List.contains_nil]
      generalize decide (1000000 < if p.2 < 0 then -p.2 else p.2) = c
      cases c <;> simp only [calmF_ap, le_line, lt_line, var_ap, c_ap, op_ap, un_ap, b_ap, and_ap, or_ap, not_ap, if_ap, andV_ap, orV_ap, ch_ap, nil_ap, cons_ap, star_ap, tup_ap, lst_ap, arm_ap, cb_ap, noPart_ap, part_ap, sl_ap, slL_ap, call_ap, callL_ap, mk_ap, fld_ap, prop_ap, meth_ap, callI_ap, get2_ap, dnew_ap, it_ap, itA_ap, yes_ap, next_ap, seq_ap, set_ap, setO_ap, drop_ap, ret_ap, retN_ap, brk_ap, cnt_ap, never_ap, ifS_ap, aug_ap, app_ap, ext_ap, pop_ap, par_ap, asg_ap, dset_ap, stF_ap, fldL_ap, see_f, see_g, okM_f, okM_g, okR_f, okR_g, okO_f, okO_g, hide_nil, hide_cons, setAll_cons, setAll_nil, wipe_nil, wipe_cons, runB_ap, runL_ap, startL_ap, startD_ap, out1_nx, out1_rt, dName_ap, dGTup_ap, dGLst_ap, dGCons_ap, dGNil_ap, dAdd_ap, dSub_ap, dMul_ap, dFdiv_ap, dMod_ap, dLt_ap, dLe_ap, dGt_ap, dGe_ap, bOf_ap, dNeg_ap, dNot_ap, eqS_int, eqS_bl, eqS_str, dInt1_ap, dInt1_bl, dMax2_ap, dMin2_ap, dAbs_ap, dSum_ap, dAny_ap, dAll_ap, dLen_l, dLen_t, dLen_a, dIx_l, dIx_t, dIx_a, dTup_ap, dLst_ap, dArm_ap, dList_l, dList_t, dTupl_ap, dTupA_ap, lstOf_ap, tupOf_t, tupOf_a, itemsOf_t, itemsOf_l, dSl_l, dSl_t, dSlL_ap, dCatL_ap, dIsN_ap, rng1_ap, rng2_ap, dRange_1, dRange_2, dRange3_ap, ownB_ap, ownT_ap, ownN_ap, eqI_ap, isC_y, il_int, il_bl, il_str, il_non, il_tup, il_lst, il_armD, il_ins, il_dic, il_ar, il_rig, Bool.false_eq_true, if_false, if_true, Res.bind_ok, Res.bind_bad, Res.out_ok, Res.out_bad, Res.calm_ok, List.map_cons, List.map_nil, List.length_cons, List.length_nil, Nat.reduceAdd, Nat.reduceSub, List.replicate, List.cons_append, List.nil_append, List.getElem?_cons_zero, List.getElem?_cons_succ, List.set_cons_succ, List.set_cons_zero, Bool.true_and, Bool.and_true, Bool.not_false, Bool.not_true, List.contains_nil, Option.bind_some, for_ap, lc_ap, Nat.reduceEqDiff, Nat.reduceLeDiff, Bool.false_xor, Bool.true_xor, and_self, decide_true, decide_false, List.lookup, List.all_cons, List.all_nil, List.contains_cons, Nat.reduceBEq, Bool.or_false, Bool.false_or, Bool.or_true, Bool.true_or, beq_self_eq_true, List.contains_nil]
  · have hm : s ∈ ws.map (·.1) := (isort_perm _).mem_iff.mp hs
    simp only [calmF_ap, le_line, lt_line, var_ap, c_ap, op_ap, un_ap, b_ap, and_ap, or_ap, not_ap, if_ap, andV_ap, orV_ap, ch_ap, nil_ap, cons_ap, star_ap, tup_ap, lst_ap, arm_ap, cb_ap, noPart_ap, part_ap, sl_ap, slL_ap, call_ap, callL_ap, mk_ap, fld_ap, prop_ap, meth_ap, callI_ap, get2_ap, dnew_ap, it_ap, itA_ap, yes_ap, next_ap, seq_ap, set_ap, setO_ap, drop_ap, ret_ap, retN_ap, brk_ap, cnt_ap, never_ap, ifS_ap, aug_ap, app_ap, ext_ap, pop_ap, par_ap, asg_ap, dset_ap, stF_ap, fldL_ap, see_f, see_g, okM_f, okM_g, okR_f, okR_g, okO_f, okO_g, hide_nil, hide_cons, setAll_cons, setAll_nil, wipe_nil, wipe_cons, runB_ap, runL_ap, startL_ap, startD_ap, out1_nx, out1_rt, dName_ap, dGTup_ap, dGLst_ap, dGCons_ap, dGNil_ap, dAdd_ap, dSub_ap, dMul_ap, dFdiv_ap, dMod_ap, dLt_ap, dLe_ap, dGt_ap, dGe_ap, bOf_ap, dNeg_ap, dNot_ap, eqS_int, eqS_bl, eqS_str, dInt1_ap, dInt1_bl, dMax2_ap, dMin2_ap, dAbs_ap, dSum_ap, dAny_ap, dAll_ap, dLen_l, dLen_t, dLen_a, dIx_l, dIx_t, dIx_a, dTup_ap, dLst_ap, dArm_ap, dList_l, dList_t, dTupl_ap, dTupA_ap, lstOf_ap, tupOf_t, tupOf_a, itemsOf_t, itemsOf_l, dSl_l, dSl_t, dSlL_ap, dCatL_ap, dIsN_ap, rng1_ap, rng2_ap, dRange_1, dRange_2, dRange3_ap, ownB_ap, ownT_ap, ownN_ap, eqI_ap, isC_y, il_int, il_bl, il_str, il_non, il_tup, il_lst, il_armD, il_ins, il_dic, il_ar, il_rig, Bool.false_eq_true, if_false, if_true, Res.bind_ok, Res.bind_bad, Res.out_ok, Res.out_bad, Res.calm_ok, List.map_cons, List.map_nil, List.length_cons, List.length_nil, Nat.reduceAdd, Nat.reduceSub, List.replicate, List.cons_append, List.nil_append, List.getElem?_cons_zero, List.getElem?_cons_succ, List.set_cons_succ, List.set_cons_zero, Bool.true_and, Bool.and_true, Bool.not_false, Bool.not_true, List.contains_nil, Option.bind_some, for_ap, lc_ap, Nat.reduceEqDiff, Nat.reduceLeDiff, Bool.false_xor, Bool.true_xor, and_self, decide_true, decide_false, List.lookup, List.all_cons, List.all_nil, List.contains_cons, Nat.reduceBEq, Bool.or_false, Bool.false_or, Bool.or_true, Bool.true_or, beq_self_eq_true, List.contains_nil, dget_ap, keyOf_int, val_w, hm]
    simp
  · have hm : s ∈ ws.map (·.1) := (isort_perm _).mem_iff.mp hs
    simp only [calmF_ap, le_line, lt_line, var_ap, c_ap, op_ap, un_ap, b_ap, and_ap, or_ap, not_ap, if_ap, andV_ap, orV_ap, ch_ap, nil_ap, cons_ap, star_ap, tup_ap, lst_ap, arm_ap, cb_ap, noPart_ap, part_ap, sl_ap, slL_ap, call_ap, callL_ap, mk_ap, fld_ap, prop_ap, meth_ap, callI_ap, get2_ap, dnew_ap, it_ap, itA_ap, yes_ap, next_ap, seq_ap, set_ap, setO_ap, drop_ap, ret_ap, retN_ap, brk_ap, cnt_ap, never_ap, ifS_ap, aug_ap, app_ap, ext_ap, pop_ap, par_ap, asg_ap, dset_ap, stF_ap, fldL_ap, see_f, see_g, okM_f, okM_g, okR_f, okR_g, okO_f, okO_g, hide_nil, hide_cons, setAll_cons, setAll_nil, wipe_nil, wipe_cons, runB_ap, runL_ap, startL_ap, startD_ap, out1_nx, out1_rt, dName_ap, dGTup_ap, dGLst_ap, dGCons_ap, dGNil_ap, dAdd_ap, dSub_ap, dMul_ap, dFdiv_ap, dMod_ap, dLt_ap, dLe_ap, dGt_ap, dGe_ap, bOf_ap, dNeg_ap, dNot_ap, eqS_int, eqS_bl, eqS_str, dInt1_ap, dInt1_bl, dMax2_ap, dMin2_ap, dAbs_ap, dSum_ap, dAny_ap, dAll_ap, dLen_l, dLen_t, dLen_a, dIx_l, dIx_t, dIx_a, dTup_ap, dLst_ap, dArm_ap, dList_l, dList_t, dTupl_ap, dTupA_ap, lstOf_ap, tupOf_t, tupOf_a, itemsOf_t, itemsOf_l, dSl_l, dSl_t, dSlL_ap, dCatL_ap, dIsN_ap, rng1_ap, rng2_ap, dRange_1, dRange_2, dRange3_ap, ownB_ap, ownT_ap, ownN_ap, eqI_ap, isC_y, il_int, il_bl, il_str, il_non, il_tup, il_lst, il_armD, il_ins, il_dic, il_ar, il_rig, Bool.false_eq_true, if_false, if_true, Res.bind_ok, Res.bind_bad, Res.out_ok, Res.out_bad, Res.calm_ok, List.map_cons, List.map_nil, List.length_cons, List.length_nil, Nat.reduceAdd, Nat.reduceSub, List.replicate, List.cons_append, List.nil_append, List.getElem?_cons_zero, List.getElem?_cons_succ, List.set_cons_succ, List.set_cons_zero, Bool.true_and, Bool.and_true, Bool.not_false, Bool.not_true, List.contains_nil, Option.bind_some, for_ap, lc_ap, Nat.reduceEqDiff, Nat.reduceLeDiff, Bool.false_xor, Bool.true_xor, and_self, decide_true, decide_false, List.lookup, List.all_cons, List.all_nil, List.contains_cons, Nat.reduceBEq, Bool.or_false, Bool.false_or, Bool.or_true, Bool.true_or, beq_self_eq_true, List.contains_nil, dget_ap, keyOf_int, val_w, hm]
    simp [sizeLine, prD]
theorem prs_w : ∀ a : Arms, prsOf (a.map prD) = some (a.map fun p => (Sum.inl p.1, D.int p.2))
  | [] => rfl
  | p :: a => by simp [prD, prsOf, keyOf, prs_w a]
theorem merge_w : ∀ (a b : Arms), ((b ++ a).map (·.1)).Nodup → mergeD (b.map fun p => ((Sum.inl p.1 : Key), D.int p.2)) (a.map fun p => (Sum.inl p.1, D.int p.2)) = (b ++ a).map fun p => (Sum.inl p.1, D.int p.2)
  | [], b, _ => by simp [mergeD]
  | p :: a, b, hn => by
    show mergeD (putD _ _ _) _ = _
    rw [put_w]
    have hp : p.1 ∉ b.map (·.1) := by
      rw [List.map_append, List.map_cons] at hn
      exact fun z => (List.nodup_append.mp hn).2.2 _ z _ (by simp) rfl
    have : put b p.1 p.2 = b ++ [p] := by
      unfold put
      rw [if_neg (by simpa using hp)]
    rw [this, merge_w a (b ++ [p]) (by simpa using hn)]
    simp
theorem dictF_ap {a : Arms} {R : Rs} (hn : (a.map (·.1)).Nodup) : dDictF [arD a] R = .ok (wD a) R := by
  have := merge_w a [] (by simpa using hn)
  simp only [dDictF, arD, prs_w, wD]
  simp only [List.map_nil, List.nil_append] at this
  rw [this]
theorem imm_wD (ws : Arms) : immO (wD ws) = true := by
  simp only [wD, immO]
  induction ws with
  | nil => rfl
  | cons p ws ih => simp [immL, D.imm] at ih ⊢; exact ih
theorem add_loop {x y : Option D} {t : Int} : ∀ (b ws : Arms) (u v : Option D), ws.length + b.length ≤ 1000 → (∀ p ∈ b, Pv.small p.2) → ∃ u' v', loopG (dGTup 2 (dGCons (dName 4) (dGCons (dName 5) dGNil))) (gDSet .g [3] 3 (gVar 4) (gOp dAdd (gCB dInt1 (Pv.gCons (gGet2 (gVar 3) (gVar 4) (gC (.int 0))) Pv.gNil)) (gOp dMul (gCB dInt1 (Pv.gCons (gVar 2) Pv.gNil)) (gCB dInt1 (Pv.gCons (gVar 5) Pv.gNil))))) (b.map prD) [x, y, some (.int t), some (wD ws), u, v] [] = .nx [x, y, some (.int t), some (wD (addW ws b t)), u', v'] []
  | [], ws, u, v, _, _ => ⟨u, v, rfl⟩
  | p :: b, ws, u, v, hl, hs => by
    obtain ⟨u', v', h⟩ := add_loop (x := x) (y := y) (t := t) b (put ws p.1 (look ws p.1 + t * p.2)) (some (.int p.1)) (some (.int p.2)) (by have := put_len ws p.1 (look ws p.1 + t * p.2); simp at hl; omega) fun q hq => hs q (by simp [hq])
    refine ⟨u', v', ?_⟩
    rw [List.map_cons, loopG]
    have hm := cmul_r (i := t) (hs p (by simp))
    have hlen : ws.length < sizeLine := by simp at hl; exact Nat.lt_of_lt_of_le (show ws.length < 100000 by omega) (by decide)
    simp only [prD, calmF_ap, le_line, lt_line, var_ap, c_ap, op_ap, un_ap, b_ap, and_ap, or_ap, not_ap, if_ap, andV_ap, orV_ap, ch_ap, nil_ap, cons_ap, star_ap, tup_ap, lst_ap, arm_ap, cb_ap, noPart_ap, part_ap, sl_ap, slL_ap, call_ap, callL_ap, mk_ap, fld_ap, prop_ap, meth_ap, callI_ap, get2_ap, dnew_ap, it_ap, itA_ap, yes_ap, next_ap, seq_ap, set_ap, setO_ap, drop_ap, ret_ap, retN_ap, brk_ap, cnt_ap, never_ap, ifS_ap, aug_ap, app_ap, ext_ap, pop_ap, par_ap, asg_ap, dset_ap, stF_ap, fldL_ap, see_f, see_g, okM_f, okM_g, okR_f, okR_g, okO_f, okO_g, hide_nil, hide_cons, setAll_cons, setAll_nil, wipe_nil, wipe_cons, runB_ap, runL_ap, startL_ap, startD_ap, out1_nx, out1_rt, dName_ap, dGTup_ap, dGLst_ap, dGCons_ap, dGNil_ap, dAdd_ap, dSub_ap, dMul_ap, dFdiv_ap, dMod_ap, dLt_ap, dLe_ap, dGt_ap, dGe_ap, bOf_ap, dNeg_ap, dNot_ap, eqS_int, eqS_bl, eqS_str, dInt1_ap, dInt1_bl, dMax2_ap, dMin2_ap, dAbs_ap, dSum_ap, dAny_ap, dAll_ap, dLen_l, dLen_t, dLen_a, dIx_l, dIx_t, dIx_a, dTup_ap, dLst_ap, dArm_ap, dList_l, dList_t, dTupl_ap, dTupA_ap, lstOf_ap, tupOf_t, tupOf_a, itemsOf_t, itemsOf_l, dSl_l, dSl_t, dSlL_ap, dCatL_ap, dIsN_ap, rng1_ap, rng2_ap, dRange_1, dRange_2, dRange3_ap, ownB_ap, ownT_ap, ownN_ap, eqI_ap, isC_y, il_int, il_bl, il_str, il_non, il_tup, il_lst, il_armD, il_ins, il_dic, il_ar, il_rig, Bool.false_eq_true, if_false, if_true, Res.bind_ok, Res.bind_bad, Res.out_ok, Res.out_bad, Res.calm_ok, List.map_cons, List.map_nil, List.length_cons, List.length_nil, Nat.reduceAdd, Nat.reduceSub, List.replicate, List.cons_append, List.nil_append, List.getElem?_cons_zero, List.getElem?_cons_succ, List.set_cons_succ, List.set_cons_zero, Bool.true_and, Bool.and_true, Bool.not_false, Bool.not_true, List.contains_nil, Option.bind_some, for_ap, lc_ap, Nat.reduceEqDiff, Nat.reduceLeDiff, Bool.false_xor, Bool.true_xor, and_self, decide_true, decide_false, List.lookup, List.all_cons, List.all_nil, List.contains_cons, Nat.reduceBEq, Bool.or_false, Bool.false_or, Bool.or_true, Bool.true_or, beq_self_eq_true, List.contains_nil, wD, keyOf_int, get_w, hm, put_w, D.imm, List.length_map, hlen] at h ⊢
    exact h
theorem e_added {a b : Arms} {t : Int} {R : Rs} (fa : Fit a) (fb : Fit b) (fit : Fit (addA a b t)) : f_added [arD a, arD b, .int t] R = .ok (arD (addA a b t)) R := by
  unfold f_added
  refine pureF_ok ?_
  unfold m_added
  simp only [calmF_ap, le_line, lt_line, var_ap, c_ap, op_ap, un_ap, b_ap, and_ap, or_ap, not_ap, if_ap, andV_ap, orV_ap, ch_ap, nil_ap, cons_ap, star_ap, tup_ap, lst_ap, arm_ap, cb_ap, noPart_ap, part_ap, sl_ap, slL_ap, call_ap, callL_ap, mk_ap, fld_ap, prop_ap, meth_ap, callI_ap, get2_ap, dnew_ap, it_ap, itA_ap, yes_ap, next_ap, seq_ap, set_ap, setO_ap, drop_ap, ret_ap, retN_ap, brk_ap, cnt_ap, never_ap, ifS_ap, aug_ap, app_ap, ext_ap, pop_ap, par_ap, asg_ap, dset_ap, stF_ap, fldL_ap, see_f, see_g, okM_f, okM_g, okR_f, okR_g, okO_f, okO_g, hide_nil, hide_cons, setAll_cons, setAll_nil, wipe_nil, wipe_cons, runB_ap, runL_ap, startL_ap, startD_ap, out1_nx, out1_rt, dName_ap, dGTup_ap, dGLst_ap, dGCons_ap, dGNil_ap, dAdd_ap, dSub_ap, dMul_ap, dFdiv_ap, dMod_ap, dLt_ap, dLe_ap, dGt_ap, dGe_ap, bOf_ap, dNeg_ap, dNot_ap, eqS_int, eqS_bl, eqS_str, dInt1_ap, dInt1_bl, dMax2_ap, dMin2_ap, dAbs_ap, dSum_ap, dAny_ap, dAll_ap, dLen_l, dLen_t, dLen_a, dIx_l, dIx_t, dIx_a, dTup_ap, dLst_ap, dArm_ap, dList_l, dList_t, dTupl_ap, dTupA_ap, lstOf_ap, tupOf_t, tupOf_a, itemsOf_t, itemsOf_l, dSl_l, dSl_t, dSlL_ap, dCatL_ap, dIsN_ap, rng1_ap, rng2_ap, dRange_1, dRange_2, dRange3_ap, ownB_ap, ownT_ap, ownN_ap, eqI_ap, isC_y, il_int, il_bl, il_str, il_non, il_tup, il_lst, il_armD, il_ins, il_dic, il_ar, il_rig, Bool.false_eq_true, if_false, if_true, Res.bind_ok, Res.bind_bad, Res.out_ok, Res.out_bad, Res.calm_ok, List.map_cons, List.map_nil, List.length_cons, List.length_nil, Nat.reduceAdd, Nat.reduceSub, List.replicate, List.cons_append, List.nil_append, List.getElem?_cons_zero, List.getElem?_cons_succ, List.set_cons_succ, List.set_cons_zero, Bool.true_and, Bool.and_true, Bool.not_false, Bool.not_true, List.contains_nil, Option.bind_some, for_ap, lc_ap, Nat.reduceEqDiff, Nat.reduceLeDiff, Bool.false_xor, Bool.true_xor, and_self, decide_true, decide_false, List.lookup, List.all_cons, List.all_nil, List.contains_cons, Nat.reduceBEq, Bool.or_false, Bool.false_or, Bool.or_true, Bool.true_or, beq_self_eq_true, List.contains_nil, dictF_ap fa.c.nodup]
  have ha := fa.len
  have hb := fb.len
  obtain ⟨u', v', h⟩ := add_loop (x := some (arD a)) (y := some (arD b)) (t := t) b a none none (by omega) fb.small
  have e1 : tupOf (arD b) [] = .ok (b.map prD) [] := rfl
  simp only [e1, calmF_ap, le_line, lt_line, var_ap, c_ap, op_ap, un_ap, b_ap, and_ap, or_ap, not_ap, if_ap, andV_ap, orV_ap, ch_ap, nil_ap, cons_ap, star_ap, tup_ap, lst_ap, arm_ap, cb_ap, noPart_ap, part_ap, sl_ap, slL_ap, call_ap, callL_ap, mk_ap, fld_ap, prop_ap, meth_ap, callI_ap, get2_ap, dnew_ap, it_ap, itA_ap, yes_ap, next_ap, seq_ap, set_ap, setO_ap, drop_ap, ret_ap, retN_ap, brk_ap, cnt_ap, never_ap, ifS_ap, aug_ap, app_ap, ext_ap, pop_ap, par_ap, asg_ap, dset_ap, stF_ap, fldL_ap, see_f, see_g, okM_f, okM_g, okR_f, okR_g, okO_f, okO_g, hide_nil, hide_cons, setAll_cons, setAll_nil, wipe_nil, wipe_cons, runB_ap, runL_ap, startL_ap, startD_ap, out1_nx, out1_rt, dName_ap, dGTup_ap, dGLst_ap, dGCons_ap, dGNil_ap, dAdd_ap, dSub_ap, dMul_ap, dFdiv_ap, dMod_ap, dLt_ap, dLe_ap, dGt_ap, dGe_ap, bOf_ap, dNeg_ap, dNot_ap, eqS_int, eqS_bl, eqS_str, dInt1_ap, dInt1_bl, dMax2_ap, dMin2_ap, dAbs_ap, dSum_ap, dAny_ap, dAll_ap, dLen_l, dLen_t, dLen_a, dIx_l, dIx_t, dIx_a, dTup_ap, dLst_ap, dArm_ap, dList_l, dList_t, dTupl_ap, dTupA_ap, lstOf_ap, tupOf_t, tupOf_a, itemsOf_t, itemsOf_l, dSl_l, dSl_t, dSlL_ap, dCatL_ap, dIsN_ap, rng1_ap, rng2_ap, dRange_1, dRange_2, dRange3_ap, ownB_ap, ownT_ap, ownN_ap, eqI_ap, isC_y, il_int, il_bl, il_str, il_non, il_tup, il_lst, il_armD, il_ins, il_dic, il_ar, il_rig, Bool.false_eq_true, if_false, if_true, Res.bind_ok, Res.bind_bad, Res.out_ok, Res.out_bad, Res.calm_ok, List.map_cons, List.map_nil, List.length_cons, List.length_nil, Nat.reduceAdd, Nat.reduceSub, List.replicate, List.cons_append, List.nil_append, List.getElem?_cons_zero, List.getElem?_cons_succ, List.set_cons_succ, List.set_cons_zero, Bool.true_and, Bool.and_true, Bool.not_false, Bool.not_true, List.contains_nil, Option.bind_some, for_ap, lc_ap, Nat.reduceEqDiff, Nat.reduceLeDiff, Bool.false_xor, Bool.true_xor, and_self, decide_true, decide_false, List.lookup, List.all_cons, List.all_nil, List.contains_cons, Nat.reduceBEq, Bool.or_false, Bool.false_or, Bool.or_true, Bool.true_or, beq_self_eq_true, List.contains_nil, h]
  have hl := addW_len t b a
  rw [show (wD (addW a b t)).isLoc = false from rfl]
  simp only [calmF_ap, le_line, lt_line, var_ap, c_ap, op_ap, un_ap, b_ap, and_ap, or_ap, not_ap, if_ap, andV_ap, orV_ap, ch_ap, nil_ap, cons_ap, star_ap, tup_ap, lst_ap, arm_ap, cb_ap, noPart_ap, part_ap, sl_ap, slL_ap, call_ap, callL_ap, mk_ap, fld_ap, prop_ap, meth_ap, callI_ap, get2_ap, dnew_ap, it_ap, itA_ap, yes_ap, next_ap, seq_ap, set_ap, setO_ap, drop_ap, ret_ap, retN_ap, brk_ap, cnt_ap, never_ap, ifS_ap, aug_ap, app_ap, ext_ap, pop_ap, par_ap, asg_ap, dset_ap, stF_ap, fldL_ap, see_f, see_g, okM_f, okM_g, okR_f, okR_g, okO_f, okO_g, hide_nil, hide_cons, setAll_cons, setAll_nil, wipe_nil, wipe_cons, runB_ap, runL_ap, startL_ap, startD_ap, out1_nx, out1_rt, dName_ap, dGTup_ap, dGLst_ap, dGCons_ap, dGNil_ap, dAdd_ap, dSub_ap, dMul_ap, dFdiv_ap, dMod_ap, dLt_ap, dLe_ap, dGt_ap, dGe_ap, bOf_ap, dNeg_ap, dNot_ap, eqS_int, eqS_bl, eqS_str, dInt1_ap, dInt1_bl, dMax2_ap, dMin2_ap, dAbs_ap, dSum_ap, dAny_ap, dAll_ap, dLen_l, dLen_t, dLen_a, dIx_l, dIx_t, dIx_a, dTup_ap, dLst_ap, dArm_ap, dList_l, dList_t, dTupl_ap, dTupA_ap, lstOf_ap, tupOf_t, tupOf_a, itemsOf_t, itemsOf_l, dSl_l, dSl_t, dSlL_ap, dCatL_ap, dIsN_ap, rng1_ap, rng2_ap, dRange_1, dRange_2, dRange3_ap, ownB_ap, ownT_ap, ownN_ap, eqI_ap, isC_y, il_int, il_bl, il_str, il_non, il_tup, il_lst, il_armD, il_ins, il_dic, il_ar, il_rig, Bool.false_eq_true, if_false, if_true, Res.bind_ok, Res.bind_bad, Res.out_ok, Res.out_bad, Res.calm_ok, List.map_cons, List.map_nil, List.length_cons, List.length_nil, Nat.reduceAdd, Nat.reduceSub, List.replicate, List.cons_append, List.nil_append, List.getElem?_cons_zero, List.getElem?_cons_succ, List.set_cons_succ, List.set_cons_zero, Bool.true_and, Bool.and_true, Bool.not_false, Bool.not_true, List.contains_nil, Option.bind_some, for_ap, lc_ap, Nat.reduceEqDiff, Nat.reduceLeDiff, Bool.false_xor, Bool.true_xor, and_self, decide_true, decide_false, List.lookup, List.all_cons, List.all_nil, List.contains_cons, Nat.reduceBEq, Bool.or_false, Bool.false_or, Bool.or_true, Bool.true_or, beq_self_eq_true, List.contains_nil]
  rw [e_sorted_arms (by omega) fit]
  rfl
theorem atI_nat {α : Type} (xs : List α) (k : Nat) : atI xs (k : Int) = xs[k]? := by
  unfold atI ixN
  rw [if_pos (Int.natCast_nonneg k)]
  by_cases h : k < xs.length
  · rw [if_pos (by omega)]; simp
  · rw [if_neg (by omega), List.getElem?_eq_none (by omega)]; rfl
theorem loopG_range {T : TD} {b : GS} {enc : Nat → D} {n : Nat} (I : Nat → PEnv → Rs → Prop) {ρ : PEnv} {R : Rs} (h0 : I 0 ρ R) (hs : ∀ i ρ R, i < n → I i ρ R → ∃ ρ1, T (enc i) ρ = some ρ1 ∧ ∃ ρ2 R2, (b ρ1 R = .nx ρ2 R2 ∨ b ρ1 R = .ct ρ2 R2) ∧ I (i + 1) ρ2 R2) : ∃ ρ2 R2, loopG T b ((List.range n).map enc) ρ R = .nx ρ2 R2 ∧ I n ρ2 R2 := by
  have : ∀ (m i : Nat) (ρ : PEnv) (R : Rs), i + m = n → I i ρ R → ∃ ρ2 R2, loopG T b ((List.range' i m).map enc) ρ R = .nx ρ2 R2 ∧ I n ρ2 R2 := by
    intro m
    induction m with
    | zero => intro i ρ R e h; simp at e; subst e; exact ⟨ρ, R, rfl, h⟩
    | succ m ih =>
      intro i ρ R e h
      obtain ⟨ρ1, h1, ρ2, R2, h2, h3⟩ := hs i ρ R (by omega) h
      obtain ⟨ρ3, R3, h4, h5⟩ := ih (i + 1) ρ2 R2 (by omega) h3
      refine ⟨ρ3, R3, ?_, h5⟩
      rw [List.range'_succ, List.map_cons]
      rcases h2 with h2 | h2 <;> simp only [loopG, h1, h2, h4]
  have := this n 0 ρ R (by omega) h0
  rwa [← List.range_eq_range'] at this
def enD' (E : Int → Int) (n : Nat) : List D := (List.range (n + 1)).map fun h : Nat => .int (E h)
theorem enD'_get {E : Int → Int} {n i : Nat} (h : i ≤ n) : (enD' E n)[i]? = some (.int (E i)) := by
  unfold enD'; rw [List.getElem?_map, List.getElem?_range (by omega)]; rfl
theorem put_wB (E : Int → Int) (i : Nat) : put (wB E i) i (bw E i) = wB E (i + 1) := by
  rw [wB_succ]
  unfold put
  rw [if_neg]
  intro h
  obtain ⟨p, hp, e⟩ := List.any_eq_true.mp h
  obtain ⟨k, hk, rfl⟩ := List.mem_map.mp hp
  have := List.mem_range.mp hk
  have e : (k : Int) = i := by simpa using e
  omega
theorem e_bent {E : Int → Int} {n : Nat} {R : Rs} (hn : n ≤ 50000) (fit : Fit (bentA E n)) : f_bent [.lst (enD' E n)] R = .ok (arD (bentA E n)) R := by
  unfold f_bent
  refine pureF_ok ?_
  unfold m_bent
  have hlen : (enD' E n).length = n + 1 := by simp [enD']
  have hB : inB ((n : Int) + 1 - 1) = true := by simp [inB]; omega
  have hc : (((n + 1 : Nat) : Int) - 1) = (n : Int) + 1 - 1 := by omega
  simp only [calmF_ap, le_line, lt_line, var_ap, c_ap, op_ap, un_ap, b_ap, and_ap, or_ap, not_ap, if_ap, andV_ap, orV_ap, ch_ap, nil_ap, cons_ap, star_ap, tup_ap, lst_ap, arm_ap, cb_ap, noPart_ap, part_ap, sl_ap, slL_ap, call_ap, callL_ap, mk_ap, fld_ap, prop_ap, meth_ap, callI_ap, get2_ap, dnew_ap, it_ap, itA_ap, yes_ap, next_ap, seq_ap, set_ap, setO_ap, drop_ap, ret_ap, retN_ap, brk_ap, cnt_ap, never_ap, ifS_ap, aug_ap, app_ap, ext_ap, pop_ap, par_ap, asg_ap, dset_ap, stF_ap, fldL_ap, see_f, see_g, okM_f, okM_g, okR_f, okR_g, okO_f, okO_g, hide_nil, hide_cons, setAll_cons, setAll_nil, wipe_nil, wipe_cons, runB_ap, runL_ap, startL_ap, startD_ap, out1_nx, out1_rt, dName_ap, dGTup_ap, dGLst_ap, dGCons_ap, dGNil_ap, dAdd_ap, dSub_ap, dMul_ap, dFdiv_ap, dMod_ap, dLt_ap, dLe_ap, dGt_ap, dGe_ap, bOf_ap, dNeg_ap, dNot_ap, eqS_int, eqS_bl, eqS_str, dInt1_ap, dInt1_bl, dMax2_ap, dMin2_ap, dAbs_ap, dSum_ap, dAny_ap, dAll_ap, dLen_l, dLen_t, dLen_a, dIx_l, dIx_t, dIx_a, dTup_ap, dLst_ap, dArm_ap, dList_l, dList_t, dTupl_ap, dTupA_ap, lstOf_ap, tupOf_t, tupOf_a, itemsOf_t, itemsOf_l, dSl_l, dSl_t, dSlL_ap, dCatL_ap, dIsN_ap, rng1_ap, rng2_ap, dRange_1, dRange_2, dRange3_ap, ownB_ap, ownT_ap, ownN_ap, eqI_ap, isC_y, il_int, il_bl, il_str, il_non, il_tup, il_lst, il_armD, il_ins, il_dic, il_ar, il_rig, Bool.false_eq_true, if_false, if_true, Res.bind_ok, Res.bind_bad, Res.out_ok, Res.out_bad, Res.calm_ok, List.map_cons, List.map_nil, List.length_cons, List.length_nil, Nat.reduceAdd, Nat.reduceSub, List.replicate, List.cons_append, List.nil_append, List.getElem?_cons_zero, List.getElem?_cons_succ, List.set_cons_succ, List.set_cons_zero, Bool.true_and, Bool.and_true, Bool.not_false, Bool.not_true, List.contains_nil, Option.bind_some, for_ap, lc_ap, Nat.reduceEqDiff, Nat.reduceLeDiff, Bool.false_xor, Bool.true_xor, and_self, decide_true, decide_false, List.lookup, List.all_cons, List.all_nil, List.contains_cons, Nat.reduceBEq, Bool.or_false, Bool.false_or, Bool.or_true, Bool.true_or, beq_self_eq_true, List.contains_nil, hlen, hc, hB]
  rw [show ((n : Int) + 1 - 1).toNat = n by omega]
  unfold rngD
  obtain ⟨ρ2, R2, h1, h2⟩ := loopG_range (T := dName 3) (n := n) (enc := fun k : Nat => D.int (0 + (k : Int)))
    (b := gSeq (gSet .f [1] 4 (gOp dSub (gCB dInt1 (Pv.gCons (gOp dIx (gVar 0) (gOp dAdd (gVar 3) (gC (.int 1)))) Pv.gNil)) (gCB dInt1 (Pv.gCons (gOp dIx (gVar 0) (gVar 3)) Pv.gNil)))) (gSeq (gDSet .f [1] 1 (gVar 3) (gOp dSub (gVar 4) (gVar 2))) (gSet .f [1] 2 (gVar 4))))
    (fun i ρ R => R = [] ∧ ∃ u v, ρ = [some (.lst (enD' E n)), some (wD (wB E i)), some (.int (if i = 0 then 0 else E i - E (i - 1))), u, v]) (ρ := [some (.lst (enD' E n)), some (.dic []), some (.int 0), none, none]) (R := []) ⟨rfl, none, none, rfl⟩ (by
      rintro i ρ R hi ⟨rfl, u, v, rfl⟩
      refine ⟨_, rfl, ?_⟩
      have e1 : (0 : Int) + (i : Int) = i := by omega
      have e2 : (i : Int) + 1 = ((i + 1 : Nat) : Int) := by omega
      have hl : (wB E i).length < sizeLine := by
        have : (wB E i).length = i := by simp [wB]
        rw [this]; exact Nat.lt_of_lt_of_le (show i < 100000 by omega) (by decide)
      have ew : E ((i + 1 : Nat) : Int) - E i - (if i = 0 then 0 else E i - E (i - 1)) = bw E i := by unfold bw; rw [show ((i + 1 : Nat) : Int) = (i : Int) + 1 by omega]
      simp only [calmF_ap, le_line, lt_line, var_ap, c_ap, op_ap, un_ap, b_ap, and_ap, or_ap, not_ap, if_ap, andV_ap, orV_ap, ch_ap, nil_ap, cons_ap, star_ap, tup_ap, lst_ap, arm_ap, cb_ap, noPart_ap, part_ap, sl_ap, slL_ap, call_ap, callL_ap, mk_ap, fld_ap, prop_ap, meth_ap, callI_ap, get2_ap, dnew_ap, it_ap, itA_ap, yes_ap, next_ap, seq_ap, set_ap, setO_ap, drop_ap, ret_ap, retN_ap, brk_ap, cnt_ap, never_ap, ifS_ap, aug_ap, app_ap, ext_ap, pop_ap, par_ap, asg_ap, dset_ap, stF_ap, fldL_ap, see_f, see_g, okM_f, okM_g, okR_f, okR_g, okO_f, okO_g, hide_nil, hide_cons, setAll_cons, setAll_nil, wipe_nil, wipe_cons, runB_ap, runL_ap, startL_ap, startD_ap, out1_nx, out1_rt, dName_ap, dGTup_ap, dGLst_ap, dGCons_ap, dGNil_ap, dAdd_ap, dSub_ap, dMul_ap, dFdiv_ap, dMod_ap, dLt_ap, dLe_ap, dGt_ap, dGe_ap, bOf_ap, dNeg_ap, dNot_ap, eqS_int, eqS_bl, eqS_str, dInt1_ap, dInt1_bl, dMax2_ap, dMin2_ap, dAbs_ap, dSum_ap, dAny_ap, dAll_ap, dLen_l, dLen_t, dLen_a, dIx_l, dIx_t, dIx_a, dTup_ap, dLst_ap, dArm_ap, dList_l, dList_t, dTupl_ap, dTupA_ap, lstOf_ap, tupOf_t, tupOf_a, itemsOf_t, itemsOf_l, dSl_l, dSl_t, dSlL_ap, dCatL_ap, dIsN_ap, rng1_ap, rng2_ap, dRange_1, dRange_2, dRange3_ap, ownB_ap, ownT_ap, ownN_ap, eqI_ap, isC_y, il_int, il_bl, il_str, il_non, il_tup, il_lst, il_armD, il_ins, il_dic, il_ar, il_rig, Bool.false_eq_true, if_false, if_true, Res.bind_ok, Res.bind_bad, Res.out_ok, Res.out_bad, Res.calm_ok, List.map_cons, List.map_nil, List.length_cons, List.length_nil, Nat.reduceAdd, Nat.reduceSub, List.replicate, List.cons_append, List.nil_append, List.getElem?_cons_zero, List.getElem?_cons_succ, List.set_cons_succ, List.set_cons_zero, Bool.true_and, Bool.and_true, Bool.not_false, Bool.not_true, List.contains_nil, Option.bind_some, for_ap, lc_ap, Nat.reduceEqDiff, Nat.reduceLeDiff, Bool.false_xor, Bool.true_xor, and_self, decide_true, decide_false, List.lookup, List.all_cons, List.all_nil, List.contains_cons, Nat.reduceBEq, Bool.or_false, Bool.false_or, Bool.or_true, Bool.true_or, beq_self_eq_true, List.contains_nil, e1, wD]
      rw [e2]
      simp only [atI_nat, enD'_get (show i + 1 ≤ n by omega), enD'_get (show i ≤ n by omega), calmF_ap, le_line, lt_line, var_ap, c_ap, op_ap, un_ap, b_ap, and_ap, or_ap, not_ap, if_ap, andV_ap, orV_ap, ch_ap, nil_ap, cons_ap, star_ap, tup_ap, lst_ap, arm_ap, cb_ap, noPart_ap, part_ap, sl_ap, slL_ap, call_ap, callL_ap, mk_ap, fld_ap, prop_ap, meth_ap, callI_ap, get2_ap, dnew_ap, it_ap, itA_ap, yes_ap, next_ap, seq_ap, set_ap, setO_ap, drop_ap, ret_ap, retN_ap, brk_ap, cnt_ap, never_ap, ifS_ap, aug_ap, app_ap, ext_ap, pop_ap, par_ap, asg_ap, dset_ap, stF_ap, fldL_ap, see_f, see_g, okM_f, okM_g, okR_f, okR_g, okO_f, okO_g, hide_nil, hide_cons, setAll_cons, setAll_nil, wipe_nil, wipe_cons, runB_ap, runL_ap, startL_ap, startD_ap, out1_nx, out1_rt, dName_ap, dGTup_ap, dGLst_ap, dGCons_ap, dGNil_ap, dAdd_ap, dSub_ap, dMul_ap, dFdiv_ap, dMod_ap, dLt_ap, dLe_ap, dGt_ap, dGe_ap, bOf_ap, dNeg_ap, dNot_ap, eqS_int, eqS_bl, eqS_str, dInt1_ap, dInt1_bl, dMax2_ap, dMin2_ap, dAbs_ap, dSum_ap, dAny_ap, dAll_ap, dLen_l, dLen_t, dLen_a, dIx_l, dIx_t, dIx_a, dTup_ap, dLst_ap, dArm_ap, dList_l, dList_t, dTupl_ap, dTupA_ap, lstOf_ap, tupOf_t, tupOf_a, itemsOf_t, itemsOf_l, dSl_l, dSl_t, dSlL_ap, dCatL_ap, dIsN_ap, rng1_ap, rng2_ap, dRange_1, dRange_2, dRange3_ap, ownB_ap, ownT_ap, ownN_ap, eqI_ap, isC_y, il_int, il_bl, il_str, il_non, il_tup, il_lst, il_armD, il_ins, il_dic, il_ar, il_rig, Bool.false_eq_true, if_false, if_true, Res.bind_ok, Res.bind_bad, Res.out_ok, Res.out_bad, Res.calm_ok, List.map_cons, List.map_nil, List.length_cons, List.length_nil, Nat.reduceAdd, Nat.reduceSub, List.replicate, List.cons_append, List.nil_append, List.getElem?_cons_zero, List.getElem?_cons_succ, List.set_cons_succ, List.set_cons_zero, Bool.true_and, Bool.and_true, Bool.not_false, Bool.not_true, List.contains_nil, Option.bind_some, for_ap, lc_ap, Nat.reduceEqDiff, Nat.reduceLeDiff, Bool.false_xor, Bool.true_xor, and_self, decide_true, decide_false, List.lookup, List.all_cons, List.all_nil, List.contains_cons, Nat.reduceBEq, Bool.or_false, Bool.false_or, Bool.or_true, Bool.true_or, beq_self_eq_true, List.contains_nil, keyOf_int, put_w, List.length_map, hl, ew, put_wB]
      refine ⟨_, _, .inl rfl, rfl, some (.int i), some (.int (E ((i + 1 : Nat) : Int) - E i)), ?_⟩
      rw [show ((i + 1 : Nat) : Int) - 1 = (i : Int) by omega])
  obtain ⟨rfl, u, v, rfl⟩ := h2
  simp only [h1, calmF_ap, le_line, lt_line, var_ap, c_ap, op_ap, un_ap, b_ap, and_ap, or_ap, not_ap, if_ap, andV_ap, orV_ap, ch_ap, nil_ap, cons_ap, star_ap, tup_ap, lst_ap, arm_ap, cb_ap, noPart_ap, part_ap, sl_ap, slL_ap, call_ap, callL_ap, mk_ap, fld_ap, prop_ap, meth_ap, callI_ap, get2_ap, dnew_ap, it_ap, itA_ap, yes_ap, next_ap, seq_ap, set_ap, setO_ap, drop_ap, ret_ap, retN_ap, brk_ap, cnt_ap, never_ap, ifS_ap, aug_ap, app_ap, ext_ap, pop_ap, par_ap, asg_ap, dset_ap, stF_ap, fldL_ap, see_f, see_g, okM_f, okM_g, okR_f, okR_g, okO_f, okO_g, hide_nil, hide_cons, setAll_cons, setAll_nil, wipe_nil, wipe_cons, runB_ap, runL_ap, startL_ap, startD_ap, out1_nx, out1_rt, dName_ap, dGTup_ap, dGLst_ap, dGCons_ap, dGNil_ap, dAdd_ap, dSub_ap, dMul_ap, dFdiv_ap, dMod_ap, dLt_ap, dLe_ap, dGt_ap, dGe_ap, bOf_ap, dNeg_ap, dNot_ap, eqS_int, eqS_bl, eqS_str, dInt1_ap, dInt1_bl, dMax2_ap, dMin2_ap, dAbs_ap, dSum_ap, dAny_ap, dAll_ap, dLen_l, dLen_t, dLen_a, dIx_l, dIx_t, dIx_a, dTup_ap, dLst_ap, dArm_ap, dList_l, dList_t, dTupl_ap, dTupA_ap, lstOf_ap, tupOf_t, tupOf_a, itemsOf_t, itemsOf_l, dSl_l, dSl_t, dSlL_ap, dCatL_ap, dIsN_ap, rng1_ap, rng2_ap, dRange_1, dRange_2, dRange3_ap, ownB_ap, ownT_ap, ownN_ap, eqI_ap, isC_y, il_int, il_bl, il_str, il_non, il_tup, il_lst, il_armD, il_ins, il_dic, il_ar, il_rig, Bool.false_eq_true, if_false, if_true, Res.bind_ok, Res.bind_bad, Res.out_ok, Res.out_bad, Res.calm_ok, List.map_cons, List.map_nil, List.length_cons, List.length_nil, Nat.reduceAdd, Nat.reduceSub, List.replicate, List.cons_append, List.nil_append, List.getElem?_cons_zero, List.getElem?_cons_succ, List.set_cons_succ, List.set_cons_zero, Bool.true_and, Bool.and_true, Bool.not_false, Bool.not_true, List.contains_nil, Option.bind_some, for_ap, lc_ap, Nat.reduceEqDiff, Nat.reduceLeDiff, Bool.false_xor, Bool.true_xor, and_self, decide_true, decide_false, List.lookup, List.all_cons, List.all_nil, List.contains_cons, Nat.reduceBEq, Bool.or_false, Bool.false_or, Bool.or_true, Bool.true_or, beq_self_eq_true, List.contains_nil]
  rw [show (wD (wB E n)).isLoc = false from rfl]
  simp only [calmF_ap, le_line, lt_line, var_ap, c_ap, op_ap, un_ap, b_ap, and_ap, or_ap, not_ap, if_ap, andV_ap, orV_ap, ch_ap, nil_ap, cons_ap, star_ap, tup_ap, lst_ap, arm_ap, cb_ap, noPart_ap, part_ap, sl_ap, slL_ap, call_ap, callL_ap, mk_ap, fld_ap, prop_ap, meth_ap, callI_ap, get2_ap, dnew_ap, it_ap, itA_ap, yes_ap, next_ap, seq_ap, set_ap, setO_ap, drop_ap, ret_ap, retN_ap, brk_ap, cnt_ap, never_ap, ifS_ap, aug_ap, app_ap, ext_ap, pop_ap, par_ap, asg_ap, dset_ap, stF_ap, fldL_ap, see_f, see_g, okM_f, okM_g, okR_f, okR_g, okO_f, okO_g, hide_nil, hide_cons, setAll_cons, setAll_nil, wipe_nil, wipe_cons, runB_ap, runL_ap, startL_ap, startD_ap, out1_nx, out1_rt, dName_ap, dGTup_ap, dGLst_ap, dGCons_ap, dGNil_ap, dAdd_ap, dSub_ap, dMul_ap, dFdiv_ap, dMod_ap, dLt_ap, dLe_ap, dGt_ap, dGe_ap, bOf_ap, dNeg_ap, dNot_ap, eqS_int, eqS_bl, eqS_str, dInt1_ap, dInt1_bl, dMax2_ap, dMin2_ap, dAbs_ap, dSum_ap, dAny_ap, dAll_ap, dLen_l, dLen_t, dLen_a, dIx_l, dIx_t, dIx_a, dTup_ap, dLst_ap, dArm_ap, dList_l, dList_t, dTupl_ap, dTupA_ap, lstOf_ap, tupOf_t, tupOf_a, itemsOf_t, itemsOf_l, dSl_l, dSl_t, dSlL_ap, dCatL_ap, dIsN_ap, rng1_ap, rng2_ap, dRange_1, dRange_2, dRange3_ap, ownB_ap, ownT_ap, ownN_ap, eqI_ap, isC_y, il_int, il_bl, il_str, il_non, il_tup, il_lst, il_armD, il_ins, il_dic, il_ar, il_rig, Bool.false_eq_true, if_false, if_true, Res.bind_ok, Res.bind_bad, Res.out_ok, Res.out_bad, Res.calm_ok, List.map_cons, List.map_nil, List.length_cons, List.length_nil, Nat.reduceAdd, Nat.reduceSub, List.replicate, List.cons_append, List.nil_append, List.getElem?_cons_zero, List.getElem?_cons_succ, List.set_cons_succ, List.set_cons_zero, Bool.true_and, Bool.and_true, Bool.not_false, Bool.not_true, List.contains_nil, Option.bind_some, for_ap, lc_ap, Nat.reduceEqDiff, Nat.reduceLeDiff, Bool.false_xor, Bool.true_xor, and_self, decide_true, decide_false, List.lookup, List.all_cons, List.all_nil, List.contains_cons, Nat.reduceBEq, Bool.or_false, Bool.false_or, Bool.or_true, Bool.true_or, beq_self_eq_true, List.contains_nil]
  rw [e_sorted_arms (by simp [wB]; omega) fit]
  rfl
/-! ### == of arms -/
def arP (a : Arms) : PyData := .tuple (a.map fun p => .tuple [.int p.1, .int p.2])
theorem pdL_pr : ∀ a : Arms, pdL (a.map prD) = some (a.map fun p => .tuple [.int p.1, .int p.2])
  | [] => by simp [pdL]
  | p :: a => by simp [pdL, prD, D.pd, pdL_pr a]
theorem pd_ar (a : Arms) : (arD a).pd = some (arP a) := by simp [arD, D.pd, pdL_pr, arP]
theorem lay_pr : ∀ a : Arms, PyData.canLayAll0 (a.map fun p => .tuple [.int p.1, .int p.2]) = true
  | [] => rfl
  | p :: a => by
    rw [List.map_cons]
    show (PyData.canLay0 (.tuple [.int p.1, .int p.2]) && PyData.canLayAll0 _) = true
    rw [lay_pr a]; rfl
theorem depth_pr : ∀ a : Arms, PyData.depthAll (a.map fun p => .tuple [.int p.1, .int p.2]) ≤ 4
  | [] => by decide
  | p :: a => by
    have := depth_pr a
    simp only [List.map_cons, PyData.depthAll, PyData.depth]
    omega
theorem shaped_ar (a : Arms) : SeqAt.shaped (arP a) = true := by
  have h := depth_pr a
  have h2 := lay_pr a
  unfold SeqAt.shaped arP
  simp only [PyData.canLay0, h2, PyData.depth, Bool.true_and]
  exact decide_eq_true (by omega)
theorem eqv_pr : ∀ a b : Arms, PyData.eqvAll (a.map fun p => .tuple [.int p.1, .int p.2]) (b.map fun p => .tuple [.int p.1, .int p.2]) = decide (a = b)
  | [], [] => rfl
  | [], _ :: _ => rfl
  | _ :: _, [] => rfl
  | p :: a, q :: b => by
    rw [List.map_cons, List.map_cons]
    show (PyData.eqv (.tuple [.int p.1, .int p.2]) (.tuple [.int q.1, .int q.2]) && PyData.eqvAll _ _) = _
    rw [eqv_pr a b]
    have : PyData.eqv (.tuple [.int p.1, .int p.2]) (.tuple [.int q.1, .int q.2]) = (p.1 == q.1 && (p.2 == q.2 && true)) := rfl
    rw [this]
    by_cases h1 : p.1 = q.1 <;> by_cases h2 : p.2 = q.2 <;> simp [h1, h2, Prod.ext_iff]
theorem eqv_ar (a b : Arms) : PyData.eqv (arP a) (arP b) = decide (a = b) := by
  show PyData.eqvAll _ _ = _
  exact eqv_pr a b
theorem eqD_ar {n : Bool} {a b : Arms} {R : Rs} : dEqD n (arD a) (arD b) R = .ok (.bl (n ^^ decide (a = b))) R := by
  simp only [dEqD, pd_ar, shaped_ar, eqv_ar, Bool.and_self, if_true]
theorem arD_nil : D.arm [] = arD [] := rfl
theorem e_greatest_slack {a : Arms} {R : Rs} : f_greatest_slack [arD a] R = .ok (.int (gs a)) R := by
  unfold f_greatest_slack
  refine pureF_ok ?_
  unfold m_greatest_slack
  simp only [calmF_ap, le_line, lt_line, var_ap, c_ap, op_ap, un_ap, b_ap, and_ap, or_ap, not_ap, if_ap, andV_ap, orV_ap, ch_ap, nil_ap, cons_ap, star_ap, tup_ap, lst_ap, arm_ap, cb_ap, noPart_ap, part_ap, sl_ap, slL_ap, call_ap, callL_ap, mk_ap, fld_ap, prop_ap, meth_ap, callI_ap, get2_ap, dnew_ap, it_ap, itA_ap, yes_ap, next_ap, seq_ap, set_ap, setO_ap, drop_ap, ret_ap, retN_ap, brk_ap, cnt_ap, never_ap, ifS_ap, aug_ap, app_ap, ext_ap, pop_ap, par_ap, asg_ap, dset_ap, stF_ap, fldL_ap, see_f, see_g, okM_f, okM_g, okR_f, okR_g, okO_f, okO_g, hide_nil, hide_cons, setAll_cons, setAll_nil, wipe_nil, wipe_cons, runB_ap, runL_ap, startL_ap, startD_ap, out1_nx, out1_rt, dName_ap, dGTup_ap, dGLst_ap, dGCons_ap, dGNil_ap, dAdd_ap, dSub_ap, dMul_ap, dFdiv_ap, dMod_ap, dLt_ap, dLe_ap, dGt_ap, dGe_ap, bOf_ap, dNeg_ap, dNot_ap, eqS_int, eqS_bl, eqS_str, dInt1_ap, dInt1_bl, dMax2_ap, dMin2_ap, dAbs_ap, dSum_ap, dAny_ap, dAll_ap, dLen_l, dLen_t, dLen_a, dIx_l, dIx_t, dIx_a, dTup_ap, dLst_ap, dArm_ap, dList_l, dList_t, dTupl_ap, dTupA_ap, lstOf_ap, tupOf_t, tupOf_a, itemsOf_t, itemsOf_l, dSl_l, dSl_t, dSlL_ap, dCatL_ap, dIsN_ap, rng1_ap, rng2_ap, dRange_1, dRange_2, dRange3_ap, ownB_ap, ownT_ap, ownN_ap, eqI_ap, isC_y, il_int, il_bl, il_str, il_non, il_tup, il_lst, il_armD, il_ins, il_dic, il_ar, il_rig, Bool.false_eq_true, if_false, if_true, Res.bind_ok, Res.bind_bad, Res.out_ok, Res.out_bad, Res.calm_ok, List.map_cons, List.map_nil, List.length_cons, List.length_nil, Nat.reduceAdd, Nat.reduceSub, List.replicate, List.cons_append, List.nil_append, List.getElem?_cons_zero, List.getElem?_cons_succ, List.set_cons_succ, List.set_cons_zero, Bool.true_and, Bool.and_true, Bool.not_false, Bool.not_true, List.contains_nil, Option.bind_some, for_ap, lc_ap, Nat.reduceEqDiff, Nat.reduceLeDiff, Bool.false_xor, Bool.true_xor, and_self, decide_true, decide_false, List.lookup, List.all_cons, List.all_nil, List.contains_cons, Nat.reduceBEq, Bool.or_false, Bool.false_or, Bool.or_true, Bool.true_or, beq_self_eq_true, List.contains_nil, Nat.zero_le, arD_nil, eqD_ar]
  rcases List.eq_nil_or_concat a with rfl | ⟨l, p, h⟩
  · rfl
  · rw [List.concat_eq_append] at h
    subst h
    have h1 : ¬ (l ++ [p] = []) := by simp
    have h2 : gs (l ++ [p]) = p.1 := by unfold gs; simp
    have h3 : dIx (arD (l ++ [p])) (.int (-1)) [] = .ok (prD p) [] := by
      have : atI ((l ++ [p]).map prD) (-1) = some (prD p) := by
        unfold atI ixN
        rw [if_neg (by omega), if_pos (by simp; omega)]
        simp
        rw [show (-1 + ((l.length : Int) + 1)).toNat = l.length by omega]
        simp
      simp only [arD, dIx_a, this]
    have h4 : dIx (prD p) (.int 0) [] = .ok (.int p.1) [] := rfl
    simp only [h1, calmF_ap, le_line, lt_line, var_ap, c_ap, op_ap, un_ap, b_ap, and_ap, or_ap, not_ap, if_ap, andV_ap, orV_ap, ch_ap, nil_ap, cons_ap, star_ap, tup_ap, lst_ap, arm_ap, cb_ap, noPart_ap, part_ap, sl_ap, slL_ap, call_ap, callL_ap, mk_ap, fld_ap, prop_ap, meth_ap, callI_ap, get2_ap, dnew_ap, it_ap, itA_ap, yes_ap, next_ap, seq_ap, set_ap, setO_ap, drop_ap, ret_ap, retN_ap, brk_ap, cnt_ap, never_ap, ifS_ap, aug_ap, app_ap, ext_ap, pop_ap, par_ap, asg_ap, dset_ap, stF_ap, fldL_ap, see_f, see_g, okM_f, okM_g, okR_f, okR_g, okO_f, okO_g, hide_nil, hide_cons, setAll_cons, setAll_nil, wipe_nil, wipe_cons, runB_ap, runL_ap, startL_ap, startD_ap, out1_nx, out1_rt, dName_ap, dGTup_ap, dGLst_ap, dGCons_ap, dGNil_ap, dAdd_ap, dSub_ap, dMul_ap, dFdiv_ap, dMod_ap, dLt_ap, dLe_ap, dGt_ap, dGe_ap, bOf_ap, dNeg_ap, dNot_ap, eqS_int, eqS_bl, eqS_str, dInt1_ap, dInt1_bl, dMax2_ap, dMin2_ap, dAbs_ap, dSum_ap, dAny_ap, dAll_ap, dLen_l, dLen_t, dLen_a, dIx_l, dIx_t, dIx_a, dTup_ap, dLst_ap, dArm_ap, dList_l, dList_t, dTupl_ap, dTupA_ap, lstOf_ap, tupOf_t, tupOf_a, itemsOf_t, itemsOf_l, dSl_l, dSl_t, dSlL_ap, dCatL_ap, dIsN_ap, rng1_ap, rng2_ap, dRange_1, dRange_2, dRange3_ap, ownB_ap, ownT_ap, ownN_ap, eqI_ap, isC_y, il_int, il_bl, il_str, il_non, il_tup, il_lst, il_armD, il_ins, il_dic, il_ar, il_rig, Bool.false_eq_true, if_false, if_true, Res.bind_ok, Res.bind_bad, Res.out_ok, Res.out_bad, Res.calm_ok, List.map_cons, List.map_nil, List.length_cons, List.length_nil, Nat.reduceAdd, Nat.reduceSub, List.replicate, List.cons_append, List.nil_append, List.getElem?_cons_zero, List.getElem?_cons_succ, List.set_cons_succ, List.set_cons_zero, Bool.true_and, Bool.and_true, Bool.not_false, Bool.not_true, List.contains_nil, Option.bind_some, for_ap, lc_ap, Nat.reduceEqDiff, Nat.reduceLeDiff, Bool.false_xor, Bool.true_xor, and_self, decide_true, decide_false, List.lookup, List.all_cons, List.all_nil, List.contains_cons, Nat.reduceBEq, Bool.or_false, Bool.false_or, Bool.or_true, Bool.true_or, beq_self_eq_true, List.contains_nil, h3, h4, h2]
/-! ### rigs -/
theorem e_driven {a b : Arms} {R : Rs} (fa : Fit a) (fb : Fit b) (fit : Fit (drA a b)) : f_driven [arD a, arD b] R = .ok (arD (drA a b)) R := by
  unfold f_driven
  refine pureF_ok ?_
  unfold m_driven
  have ga := gs_nonneg fa.c
  have gb := gs_nonneg fb.c
  have ma : gs a ≤ 999 := by
    unfold gs; split
    · rename_i p h; exact fa.deep p (List.mem_of_getLast? h)
    · omega
  have mb : gs b ≤ 999 := by
    unfold gs; split
    · rename_i p h; exact fb.deep p (List.mem_of_getLast? h)
    · omega
  have hB : inB (gs a + gs b + 1 + 1) = true := by simp [inB]; omega
  simp only [calmF_ap, le_line, lt_line, var_ap, c_ap, op_ap, un_ap, b_ap, and_ap, or_ap, not_ap, if_ap, andV_ap, orV_ap, ch_ap, nil_ap, cons_ap, star_ap, tup_ap, lst_ap, arm_ap, cb_ap, noPart_ap, part_ap, sl_ap, slL_ap, call_ap, callL_ap, mk_ap, fld_ap, prop_ap, meth_ap, callI_ap, get2_ap, dnew_ap, it_ap, itA_ap, yes_ap, next_ap, seq_ap, set_ap, setO_ap, drop_ap, ret_ap, retN_ap, brk_ap, cnt_ap, never_ap, ifS_ap, aug_ap, app_ap, ext_ap, pop_ap, par_ap, asg_ap, dset_ap, stF_ap, fldL_ap, see_f, see_g, okM_f, okM_g, okR_f, okR_g, okO_f, okO_g, hide_nil, hide_cons, setAll_cons, setAll_nil, wipe_nil, wipe_cons, runB_ap, runL_ap, startL_ap, startD_ap, out1_nx, out1_rt, dName_ap, dGTup_ap, dGLst_ap, dGCons_ap, dGNil_ap, dAdd_ap, dSub_ap, dMul_ap, dFdiv_ap, dMod_ap, dLt_ap, dLe_ap, dGt_ap, dGe_ap, bOf_ap, dNeg_ap, dNot_ap, eqS_int, eqS_bl, eqS_str, dInt1_ap, dInt1_bl, dMax2_ap, dMin2_ap, dAbs_ap, dSum_ap, dAny_ap, dAll_ap, dLen_l, dLen_t, dLen_a, dIx_l, dIx_t, dIx_a, dTup_ap, dLst_ap, dArm_ap, dList_l, dList_t, dTupl_ap, dTupA_ap, lstOf_ap, tupOf_t, tupOf_a, itemsOf_t, itemsOf_l, dSl_l, dSl_t, dSlL_ap, dCatL_ap, dIsN_ap, rng1_ap, rng2_ap, dRange_1, dRange_2, dRange3_ap, ownB_ap, ownT_ap, ownN_ap, eqI_ap, isC_y, il_int, il_bl, il_str, il_non, il_tup, il_lst, il_armD, il_ins, il_dic, il_ar, il_rig, Bool.false_eq_true, if_false, if_true, Res.bind_ok, Res.bind_bad, Res.out_ok, Res.out_bad, Res.calm_ok, List.map_cons, List.map_nil, List.length_cons, List.length_nil, Nat.reduceAdd, Nat.reduceSub, List.replicate, List.cons_append, List.nil_append, List.getElem?_cons_zero, List.getElem?_cons_succ, List.set_cons_succ, List.set_cons_zero, Bool.true_and, Bool.and_true, Bool.not_false, Bool.not_true, List.contains_nil, Option.bind_some, for_ap, lc_ap, Nat.reduceEqDiff, Nat.reduceLeDiff, Bool.false_xor, Bool.true_xor, and_self, decide_true, decide_false, List.lookup, List.all_cons, List.all_nil, List.contains_cons, Nat.reduceBEq, Bool.or_false, Bool.false_or, Bool.or_true, Bool.true_or, beq_self_eq_true, List.contains_nil, e_greatest_slack, hB]
  unfold rngD
  rw [lcG_map (fun k : Nat => D.int (0 + (k : Int))) (fun k : Nat => D.int (cv b (cv a k))) fun k hk => ⟨_, rfl, ?_⟩]
  · have hl : ((List.range (gs a + gs b + 1 + 1).toNat).map fun k : Nat => D.int (cv b (cv a k))).length ≤ sizeLine := by rw [List.length_map, List.length_range]; exact line60 (by omega)
    have e : ((List.range (gs a + gs b + 1 + 1).toNat).map fun k : Nat => D.int (cv b (cv a k))) = enD' (fun h => cv b (cv a h)) (gs a + gs b + 1).toNat := by
      unfold enD'
      rw [show (gs a + gs b + 1 + 1).toNat = (gs a + gs b + 1).toNat + 1 by omega]
    simp only [calmF_ap, le_line, lt_line, var_ap, c_ap, op_ap, un_ap, b_ap, and_ap, or_ap, not_ap, if_ap, andV_ap, orV_ap, ch_ap, nil_ap, cons_ap, star_ap, tup_ap, lst_ap, arm_ap, cb_ap, noPart_ap, part_ap, sl_ap, slL_ap, call_ap, callL_ap, mk_ap, fld_ap, prop_ap, meth_ap, callI_ap, get2_ap, dnew_ap, it_ap, itA_ap, yes_ap, next_ap, seq_ap, set_ap, setO_ap, drop_ap, ret_ap, retN_ap, brk_ap, cnt_ap, never_ap, ifS_ap, aug_ap, app_ap, ext_ap, pop_ap, par_ap, asg_ap, dset_ap, stF_ap, fldL_ap, see_f, see_g, okM_f, okM_g, okR_f, okR_g, okO_f, okO_g, hide_nil, hide_cons, setAll_cons, setAll_nil, wipe_nil, wipe_cons, runB_ap, runL_ap, startL_ap, startD_ap, out1_nx, out1_rt, dName_ap, dGTup_ap, dGLst_ap, dGCons_ap, dGNil_ap, dAdd_ap, dSub_ap, dMul_ap, dFdiv_ap, dMod_ap, dLt_ap, dLe_ap, dGt_ap, dGe_ap, bOf_ap, dNeg_ap, dNot_ap, eqS_int, eqS_bl, eqS_str, dInt1_ap, dInt1_bl, dMax2_ap, dMin2_ap, dAbs_ap, dSum_ap, dAny_ap, dAll_ap, dLen_l, dLen_t, dLen_a, dIx_l, dIx_t, dIx_a, dTup_ap, dLst_ap, dArm_ap, dList_l, dList_t, dTupl_ap, dTupA_ap, lstOf_ap, tupOf_t, tupOf_a, itemsOf_t, itemsOf_l, dSl_l, dSl_t, dSlL_ap, dCatL_ap, dIsN_ap, rng1_ap, rng2_ap, dRange_1, dRange_2, dRange3_ap, ownB_ap, ownT_ap, ownN_ap, eqI_ap, isC_y, il_int, il_bl, il_str, il_non, il_tup, il_lst, il_armD, il_ins, il_dic, il_ar, il_rig, Bool.false_eq_true, if_false, if_true, Res.bind_ok, Res.bind_bad, Res.out_ok, Res.out_bad, Res.calm_ok, List.map_cons, List.map_nil, List.length_cons, List.length_nil, Nat.reduceAdd, Nat.reduceSub, List.replicate, List.cons_append, List.nil_append, List.getElem?_cons_zero, List.getElem?_cons_succ, List.set_cons_succ, List.set_cons_zero, Bool.true_and, Bool.and_true, Bool.not_false, Bool.not_true, List.contains_nil, Option.bind_some, for_ap, lc_ap, Nat.reduceEqDiff, Nat.reduceLeDiff, Bool.false_xor, Bool.true_xor, and_self, decide_true, decide_false, List.lookup, List.all_cons, List.all_nil, List.contains_cons, Nat.reduceBEq, Bool.or_false, Bool.false_or, Bool.or_true, Bool.true_or, beq_self_eq_true, List.contains_nil, hl]
    rw [e, e_bent (by omega) fit]
    rfl
  · rw [show (0 : Int) + (k : Int) = k by omega]
    simp only [calmF_ap, le_line, lt_line, var_ap, c_ap, op_ap, un_ap, b_ap, and_ap, or_ap, not_ap, if_ap, andV_ap, orV_ap, ch_ap, nil_ap, cons_ap, star_ap, tup_ap, lst_ap, arm_ap, cb_ap, noPart_ap, part_ap, sl_ap, slL_ap, call_ap, callL_ap, mk_ap, fld_ap, prop_ap, meth_ap, callI_ap, get2_ap, dnew_ap, it_ap, itA_ap, yes_ap, next_ap, seq_ap, set_ap, setO_ap, drop_ap, ret_ap, retN_ap, brk_ap, cnt_ap, never_ap, ifS_ap, aug_ap, app_ap, ext_ap, pop_ap, par_ap, asg_ap, dset_ap, stF_ap, fldL_ap, see_f, see_g, okM_f, okM_g, okR_f, okR_g, okO_f, okO_g, hide_nil, hide_cons, setAll_cons, setAll_nil, wipe_nil, wipe_cons, runB_ap, runL_ap, startL_ap, startD_ap, out1_nx, out1_rt, dName_ap, dGTup_ap, dGLst_ap, dGCons_ap, dGNil_ap, dAdd_ap, dSub_ap, dMul_ap, dFdiv_ap, dMod_ap, dLt_ap, dLe_ap, dGt_ap, dGe_ap, bOf_ap, dNeg_ap, dNot_ap, eqS_int, eqS_bl, eqS_str, dInt1_ap, dInt1_bl, dMax2_ap, dMin2_ap, dAbs_ap, dSum_ap, dAny_ap, dAll_ap, dLen_l, dLen_t, dLen_a, dIx_l, dIx_t, dIx_a, dTup_ap, dLst_ap, dArm_ap, dList_l, dList_t, dTupl_ap, dTupA_ap, lstOf_ap, tupOf_t, tupOf_a, itemsOf_t, itemsOf_l, dSl_l, dSl_t, dSlL_ap, dCatL_ap, dIsN_ap, rng1_ap, rng2_ap, dRange_1, dRange_2, dRange3_ap, ownB_ap, ownT_ap, ownN_ap, eqI_ap, isC_y, il_int, il_bl, il_str, il_non, il_tup, il_lst, il_armD, il_ins, il_dic, il_ar, il_rig, Bool.false_eq_true, if_false, if_true, Res.bind_ok, Res.bind_bad, Res.out_ok, Res.out_bad, Res.calm_ok, List.map_cons, List.map_nil, List.length_cons, List.length_nil, Nat.reduceAdd, Nat.reduceSub, List.replicate, List.cons_append, List.nil_append, List.getElem?_cons_zero, List.getElem?_cons_succ, List.set_cons_succ, List.set_cons_zero, Bool.true_and, Bool.and_true, Bool.not_false, Bool.not_true, List.contains_nil, Option.bind_some, for_ap, lc_ap, Nat.reduceEqDiff, Nat.reduceLeDiff, Bool.false_xor, Bool.true_xor, and_self, decide_true, decide_false, List.lookup, List.all_cons, List.all_nil, List.contains_cons, Nat.reduceBEq, Bool.or_false, Bool.false_or, Bool.or_true, Bool.true_or, beq_self_eq_true, List.contains_nil, e_curve_of fa, e_curve_of fb]
theorem e_rig_init {a : Arms} {R : Rs} : f_Rig_init R.length [arD a] (R ++ [.ins "Rig" []]) = .ok .non (R ++ [rigD a]) := by
  unfold f_Rig_init m_Rig_init
  simp only [calmF_ap, le_line, lt_line, var_ap, c_ap, op_ap, un_ap, b_ap, and_ap, or_ap, not_ap, if_ap, andV_ap, orV_ap, ch_ap, nil_ap, cons_ap, star_ap, tup_ap, lst_ap, arm_ap, cb_ap, noPart_ap, part_ap, sl_ap, slL_ap, call_ap, callL_ap, mk_ap, fld_ap, prop_ap, meth_ap, callI_ap, get2_ap, dnew_ap, it_ap, itA_ap, yes_ap, next_ap, seq_ap, set_ap, setO_ap, drop_ap, ret_ap, retN_ap, brk_ap, cnt_ap, never_ap, ifS_ap, aug_ap, app_ap, ext_ap, pop_ap, par_ap, asg_ap, dset_ap, stF_ap, fldL_ap, see_f, see_g, okM_f, okM_g, okR_f, okR_g, okO_f, okO_g, hide_nil, hide_cons, setAll_cons, setAll_nil, wipe_nil, wipe_cons, runB_ap, runL_ap, startL_ap, startD_ap, out1_nx, out1_rt, dName_ap, dGTup_ap, dGLst_ap, dGCons_ap, dGNil_ap, dAdd_ap, dSub_ap, dMul_ap, dFdiv_ap, dMod_ap, dLt_ap, dLe_ap, dGt_ap, dGe_ap, bOf_ap, dNeg_ap, dNot_ap, eqS_int, eqS_bl, eqS_str, dInt1_ap, dInt1_bl, dMax2_ap, dMin2_ap, dAbs_ap, dSum_ap, dAny_ap, dAll_ap, dLen_l, dLen_t, dLen_a, dIx_l, dIx_t, dIx_a, dTup_ap, dLst_ap, dArm_ap, dList_l, dList_t, dTupl_ap, dTupA_ap, lstOf_ap, tupOf_t, tupOf_a, itemsOf_t, itemsOf_l, dSl_l, dSl_t, dSlL_ap, dCatL_ap, dIsN_ap, rng1_ap, rng2_ap, dRange_1, dRange_2, dRange3_ap, ownB_ap, ownT_ap, ownN_ap, eqI_ap, isC_y, il_int, il_bl, il_str, il_non, il_tup, il_lst, il_armD, il_ins, il_dic, il_ar, il_rig, Bool.false_eq_true, if_false, if_true, Res.bind_ok, Res.bind_bad, Res.out_ok, Res.out_bad, Res.calm_ok, List.map_cons, List.map_nil, List.length_cons, List.length_nil, Nat.reduceAdd, Nat.reduceSub, List.replicate, List.cons_append, List.nil_append, List.getElem?_cons_zero, List.getElem?_cons_succ, List.set_cons_succ, List.set_cons_zero, Bool.true_and, Bool.and_true, Bool.not_false, Bool.not_true, List.contains_nil, Option.bind_some, for_ap, lc_ap, Nat.reduceEqDiff, Nat.reduceLeDiff, Bool.false_xor, Bool.true_xor, and_self, decide_true, decide_false, List.lookup, List.all_cons, List.all_nil, List.contains_cons, Nat.reduceBEq, Bool.or_false, Bool.false_or, Bool.or_true, Bool.true_or, beq_self_eq_true, List.contains_nil]
  have h1 : (R ++ [D.ins "Rig" []])[R.length]? = some (D.ins "Rig" []) := by simp
  simp only [h1, calmF_ap, le_line, lt_line, var_ap, c_ap, op_ap, un_ap, b_ap, and_ap, or_ap, not_ap, if_ap, andV_ap, orV_ap, ch_ap, nil_ap, cons_ap, star_ap, tup_ap, lst_ap, arm_ap, cb_ap, noPart_ap, part_ap, sl_ap, slL_ap, call_ap, callL_ap, mk_ap, fld_ap, prop_ap, meth_ap, callI_ap, get2_ap, dnew_ap, it_ap, itA_ap, yes_ap, next_ap, seq_ap, set_ap, setO_ap, drop_ap, ret_ap, retN_ap, brk_ap, cnt_ap, never_ap, ifS_ap, aug_ap, app_ap, ext_ap, pop_ap, par_ap, asg_ap, dset_ap, stF_ap, fldL_ap, see_f, see_g, okM_f, okM_g, okR_f, okR_g, okO_f, okO_g, hide_nil, hide_cons, setAll_cons, setAll_nil, wipe_nil, wipe_cons, runB_ap, runL_ap, startL_ap, startD_ap, out1_nx, out1_rt, dName_ap, dGTup_ap, dGLst_ap, dGCons_ap, dGNil_ap, dAdd_ap, dSub_ap, dMul_ap, dFdiv_ap, dMod_ap, dLt_ap, dLe_ap, dGt_ap, dGe_ap, bOf_ap, dNeg_ap, dNot_ap, eqS_int, eqS_bl, eqS_str, dInt1_ap, dInt1_bl, dMax2_ap, dMin2_ap, dAbs_ap, dSum_ap, dAny_ap, dAll_ap, dLen_l, dLen_t, dLen_a, dIx_l, dIx_t, dIx_a, dTup_ap, dLst_ap, dArm_ap, dList_l, dList_t, dTupl_ap, dTupA_ap, lstOf_ap, tupOf_t, tupOf_a, itemsOf_t, itemsOf_l, dSl_l, dSl_t, dSlL_ap, dCatL_ap, dIsN_ap, rng1_ap, rng2_ap, dRange_1, dRange_2, dRange3_ap, ownB_ap, ownT_ap, ownN_ap, eqI_ap, isC_y, il_int, il_bl, il_str, il_non, il_tup, il_lst, il_armD, il_ins, il_dic, il_ar, il_rig, Bool.false_eq_true, if_false, if_true, Res.bind_ok, Res.bind_bad, Res.out_ok, Res.out_bad, Res.calm_ok, List.map_cons, List.map_nil, List.length_cons, List.length_nil, Nat.reduceAdd, Nat.reduceSub, List.replicate, List.cons_append, List.nil_append, List.getElem?_cons_zero, List.getElem?_cons_succ, List.set_cons_succ, List.set_cons_zero, Bool.true_and, Bool.and_true, Bool.not_false, Bool.not_true, List.contains_nil, Option.bind_some, for_ap, lc_ap, Nat.reduceEqDiff, Nat.reduceLeDiff, Bool.false_xor, Bool.true_xor, and_self, decide_true, decide_false, List.lookup, List.all_cons, List.all_nil, List.contains_cons, Nat.reduceBEq, Bool.or_false, Bool.false_or, Bool.or_true, Bool.true_or, beq_self_eq_true, List.contains_nil, putFD, Nat.zero_lt_succ]
  simp [rigD, out1]
theorem mk_rig {a : Arms} {R : Rs} : mkEnd "Rig" R.length (f_Rig_init R.length [arD a] (R ++ [.ins "Rig" []])) = .ok (rigD a) R := by
  rw [e_rig_init]; exact mkEnd_ok rfl
theorem rig_told {a : Arms} : (List.lookup ("told" : Str) [(("told" : Str), arD a)]) = some (arD a) := by simp [List.lookup]
theorem e_rig_arms {a : Arms} {R : Rs} : f_Rig_arms [rigD a] R = .ok (arD a) R := by
  unfold f_Rig_arms
  refine pureF_ok ?_
  unfold m_Rig_arms
  simp only [calmF_ap, le_line, lt_line, var_ap, c_ap, op_ap, un_ap, b_ap, and_ap, or_ap, not_ap, if_ap, andV_ap, orV_ap, ch_ap, nil_ap, cons_ap, star_ap, tup_ap, lst_ap, arm_ap, cb_ap, noPart_ap, part_ap, sl_ap, slL_ap, call_ap, callL_ap, mk_ap, fld_ap, prop_ap, meth_ap, callI_ap, get2_ap, dnew_ap, it_ap, itA_ap, yes_ap, next_ap, seq_ap, set_ap, setO_ap, drop_ap, ret_ap, retN_ap, brk_ap, cnt_ap, never_ap, ifS_ap, aug_ap, app_ap, ext_ap, pop_ap, par_ap, asg_ap, dset_ap, stF_ap, fldL_ap, see_f, see_g, okM_f, okM_g, okR_f, okR_g, okO_f, okO_g, hide_nil, hide_cons, setAll_cons, setAll_nil, wipe_nil, wipe_cons, runB_ap, runL_ap, startL_ap, startD_ap, out1_nx, out1_rt, dName_ap, dGTup_ap, dGLst_ap, dGCons_ap, dGNil_ap, dAdd_ap, dSub_ap, dMul_ap, dFdiv_ap, dMod_ap, dLt_ap, dLe_ap, dGt_ap, dGe_ap, bOf_ap, dNeg_ap, dNot_ap, eqS_int, eqS_bl, eqS_str, dInt1_ap, dInt1_bl, dMax2_ap, dMin2_ap, dAbs_ap, dSum_ap, dAny_ap, dAll_ap, dLen_l, dLen_t, dLen_a, dIx_l, dIx_t, dIx_a, dTup_ap, dLst_ap, dArm_ap, dList_l, dList_t, dTupl_ap, dTupA_ap, lstOf_ap, tupOf_t, tupOf_a, itemsOf_t, itemsOf_l, dSl_l, dSl_t, dSlL_ap, dCatL_ap, dIsN_ap, rng1_ap, rng2_ap, dRange_1, dRange_2, dRange3_ap, ownB_ap, ownT_ap, ownN_ap, eqI_ap, isC_y, il_int, il_bl, il_str, il_non, il_tup, il_lst, il_armD, il_ins, il_dic, il_ar, il_rig, Bool.false_eq_true, if_false, if_true, Res.bind_ok, Res.bind_bad, Res.out_ok, Res.out_bad, Res.calm_ok, List.map_cons, List.map_nil, List.length_cons, List.length_nil, Nat.reduceAdd, Nat.reduceSub, List.replicate, List.cons_append, List.nil_append, List.getElem?_cons_zero, List.getElem?_cons_succ, List.set_cons_succ, List.set_cons_zero, Bool.true_and, Bool.and_true, Bool.not_false, Bool.not_true, List.contains_nil, Option.bind_some, for_ap, lc_ap, Nat.reduceEqDiff, Nat.reduceLeDiff, Bool.false_xor, Bool.true_xor, and_self, decide_true, decide_false, List.lookup, List.all_cons, List.all_nil, List.contains_cons, Nat.reduceBEq, Bool.or_false, Bool.false_or, Bool.or_true, Bool.true_or, beq_self_eq_true, List.contains_nil, rigD, rig_told]
theorem e_rig_pull {a : Arms} {R : Rs} (fa : Fit a) : f_Rig_pull [rigD a] R = .ok (.int (pull a)) R := by
  unfold f_Rig_pull
  refine pureF_ok ?_
  unfold m_Rig_pull
  simp only [calmF_ap, le_line, lt_line, var_ap, c_ap, op_ap, un_ap, b_ap, and_ap, or_ap, not_ap, if_ap, andV_ap, orV_ap, ch_ap, nil_ap, cons_ap, star_ap, tup_ap, lst_ap, arm_ap, cb_ap, noPart_ap, part_ap, sl_ap, slL_ap, call_ap, callL_ap, mk_ap, fld_ap, prop_ap, meth_ap, callI_ap, get2_ap, dnew_ap, it_ap, itA_ap, yes_ap, next_ap, seq_ap, set_ap, setO_ap, drop_ap, ret_ap, retN_ap, brk_ap, cnt_ap, never_ap, ifS_ap, aug_ap, app_ap, ext_ap, pop_ap, par_ap, asg_ap, dset_ap, stF_ap, fldL_ap, see_f, see_g, okM_f, okM_g, okR_f, okR_g, okO_f, okO_g, hide_nil, hide_cons, setAll_cons, setAll_nil, wipe_nil, wipe_cons, runB_ap, runL_ap, startL_ap, startD_ap, out1_nx, out1_rt, dName_ap, dGTup_ap, dGLst_ap, dGCons_ap, dGNil_ap, dAdd_ap, dSub_ap, dMul_ap, dFdiv_ap, dMod_ap, dLt_ap, dLe_ap, dGt_ap, dGe_ap, bOf_ap, dNeg_ap, dNot_ap, eqS_int, eqS_bl, eqS_str, dInt1_ap, dInt1_bl, dMax2_ap, dMin2_ap, dAbs_ap, dSum_ap, dAny_ap, dAll_ap, dLen_l, dLen_t, dLen_a, dIx_l, dIx_t, dIx_a, dTup_ap, dLst_ap, dArm_ap, dList_l, dList_t, dTupl_ap, dTupA_ap, lstOf_ap, tupOf_t, tupOf_a, itemsOf_t, itemsOf_l, dSl_l, dSl_t, dSlL_ap, dCatL_ap, dIsN_ap, rng1_ap, rng2_ap, dRange_1, dRange_2, dRange3_ap, ownB_ap, ownT_ap, ownN_ap, eqI_ap, isC_y, il_int, il_bl, il_str, il_non, il_tup, il_lst, il_armD, il_ins, il_dic, il_ar, il_rig, Bool.false_eq_true, if_false, if_true, Res.bind_ok, Res.bind_bad, Res.out_ok, Res.out_bad, Res.calm_ok, List.map_cons, List.map_nil, List.length_cons, List.length_nil, Nat.reduceAdd, Nat.reduceSub, List.replicate, List.cons_append, List.nil_append, List.getElem?_cons_zero, List.getElem?_cons_succ, List.set_cons_succ, List.set_cons_zero, Bool.true_and, Bool.and_true, Bool.not_false, Bool.not_true, List.contains_nil, Option.bind_some, for_ap, lc_ap, Nat.reduceEqDiff, Nat.reduceLeDiff, Bool.false_xor, Bool.true_xor, and_self, decide_true, decide_false, List.lookup, List.all_cons, List.all_nil, List.contains_cons, Nat.reduceBEq, Bool.or_false, Bool.false_or, Bool.or_true, Bool.true_or, beq_self_eq_true, List.contains_nil, rigD, rig_told, e_pull_of fa.line]
theorem e_rig_fwd {a : Arms} {R : Rs} : f_Rig_is_forward [rigD a] R = .ok (.bl (nf a 0)) R := by
  unfold f_Rig_is_forward
  refine pureF_ok ?_
  unfold m_Rig_is_forward
  simp only [calmF_ap, le_line, lt_line, var_ap, c_ap, op_ap, un_ap, b_ap, and_ap, or_ap, not_ap, if_ap, andV_ap, orV_ap, ch_ap, nil_ap, cons_ap, star_ap, tup_ap, lst_ap, arm_ap, cb_ap, noPart_ap, part_ap, sl_ap, slL_ap, call_ap, callL_ap, mk_ap, fld_ap, prop_ap, meth_ap, callI_ap, get2_ap, dnew_ap, it_ap, itA_ap, yes_ap, next_ap, seq_ap, set_ap, setO_ap, drop_ap, ret_ap, retN_ap, brk_ap, cnt_ap, never_ap, ifS_ap, aug_ap, app_ap, ext_ap, pop_ap, par_ap, asg_ap, dset_ap, stF_ap, fldL_ap, see_f, see_g, okM_f, okM_g, okR_f, okR_g, okO_f, okO_g, hide_nil, hide_cons, setAll_cons, setAll_nil, wipe_nil, wipe_cons, runB_ap, runL_ap, startL_ap, startD_ap, out1_nx, out1_rt, dName_ap, dGTup_ap, dGLst_ap, dGCons_ap, dGNil_ap, dAdd_ap, dSub_ap, dMul_ap, dFdiv_ap, dMod_ap, dLt_ap, dLe_ap, dGt_ap, dGe_ap, bOf_ap, dNeg_ap, dNot_ap, eqS_int, eqS_bl, eqS_str, dInt1_ap, dInt1_bl, dMax2_ap, dMin2_ap, dAbs_ap, dSum_ap, dAny_ap, dAll_ap, dLen_l, dLen_t, dLen_a, dIx_l, dIx_t, dIx_a, dTup_ap, dLst_ap, dArm_ap, dList_l, dList_t, dTupl_ap, dTupA_ap, lstOf_ap, tupOf_t, tupOf_a, itemsOf_t, itemsOf_l, dSl_l, dSl_t, dSlL_ap, dCatL_ap, dIsN_ap, rng1_ap, rng2_ap, dRange_1, dRange_2, dRange3_ap, ownB_ap, ownT_ap, ownN_ap, eqI_ap, isC_y, il_int, il_bl, il_str, il_non, il_tup, il_lst, il_armD, il_ins, il_dic, il_ar, il_rig, Bool.false_eq_true, if_false, if_true, Res.bind_ok, Res.bind_bad, Res.out_ok, Res.out_bad, Res.calm_ok, List.map_cons, List.map_nil, List.length_cons, List.length_nil, Nat.reduceAdd, Nat.reduceSub, List.replicate, List.cons_append, List.nil_append, List.getElem?_cons_zero, List.getElem?_cons_succ, List.set_cons_succ, List.set_cons_zero, Bool.true_and, Bool.and_true, Bool.not_false, Bool.not_true, List.contains_nil, Option.bind_some, for_ap, lc_ap, Nat.reduceEqDiff, Nat.reduceLeDiff, Bool.false_xor, Bool.true_xor, and_self, decide_true, decide_false, List.lookup, List.all_cons, List.all_nil, List.contains_cons, Nat.reduceBEq, Bool.or_false, Bool.false_or, Bool.or_true, Bool.true_or, beq_self_eq_true, List.contains_nil, rigD, rig_told, e_never_falls]
theorem e_rig_add {a b : Arms} {R : Rs} (fa : Fit a) (fb : Fit b) (fit : Fit (addA a b 1)) : f_Rig_add [rigD a, rigD b] R = .ok (rigD (addA a b 1)) R := by
  unfold f_Rig_add
  refine pureF_ok ?_
  unfold m_Rig_add
  simp only [calmF_ap, le_line, lt_line, var_ap, c_ap, op_ap, un_ap, b_ap, and_ap, or_ap, not_ap, if_ap, andV_ap, orV_ap, ch_ap, nil_ap, cons_ap, star_ap, tup_ap, lst_ap, arm_ap, cb_ap, noPart_ap, part_ap, sl_ap, slL_ap, call_ap, callL_ap, mk_ap, fld_ap, prop_ap, meth_ap, callI_ap, get2_ap, dnew_ap, it_ap, itA_ap, yes_ap, next_ap, seq_ap, set_ap, setO_ap, drop_ap, ret_ap, retN_ap, brk_ap, cnt_ap, never_ap, ifS_ap, aug_ap, app_ap, ext_ap, pop_ap, par_ap, asg_ap, dset_ap, stF_ap, fldL_ap, see_f, see_g, okM_f, okM_g, okR_f, okR_g, okO_f, okO_g, hide_nil, hide_cons, setAll_cons, setAll_nil, wipe_nil, wipe_cons, runB_ap, runL_ap, startL_ap, startD_ap, out1_nx, out1_rt, dName_ap, dGTup_ap, dGLst_ap, dGCons_ap, dGNil_ap, dAdd_ap, dSub_ap, dMul_ap, dFdiv_ap, dMod_ap, dLt_ap, dLe_ap, dGt_ap, dGe_ap, bOf_ap, dNeg_ap, dNot_ap, eqS_int, eqS_bl, eqS_str, dInt1_ap, dInt1_bl, dMax2_ap, dMin2_ap, dAbs_ap, dSum_ap, dAny_ap, dAll_ap, dLen_l, dLen_t, dLen_a, dIx_l, dIx_t, dIx_a, dTup_ap, dLst_ap, dArm_ap, dList_l, dList_t, dTupl_ap, dTupA_ap, lstOf_ap, tupOf_t, tupOf_a, itemsOf_t, itemsOf_l, dSl_l, dSl_t, dSlL_ap, dCatL_ap, dIsN_ap, rng1_ap, rng2_ap, dRange_1, dRange_2, dRange3_ap, ownB_ap, ownT_ap, ownN_ap, eqI_ap, isC_y, il_int, il_bl, il_str, il_non, il_tup, il_lst, il_armD, il_ins, il_dic, il_ar, il_rig, Bool.false_eq_true, if_false, if_true, Res.bind_ok, Res.bind_bad, Res.out_ok, Res.out_bad, Res.calm_ok, List.map_cons, List.map_nil, List.length_cons, List.length_nil, Nat.reduceAdd, Nat.reduceSub, List.replicate, List.cons_append, List.nil_append, List.getElem?_cons_zero, List.getElem?_cons_succ, List.set_cons_succ, List.set_cons_zero, Bool.true_and, Bool.and_true, Bool.not_false, Bool.not_true, List.contains_nil, Option.bind_some, for_ap, lc_ap, Nat.reduceEqDiff, Nat.reduceLeDiff, Bool.false_xor, Bool.true_xor, and_self, decide_true, decide_false, List.lookup, List.all_cons, List.all_nil, List.contains_cons, Nat.reduceBEq, Bool.or_false, Bool.false_or, Bool.or_true, Bool.true_or, beq_self_eq_true, List.contains_nil, show rigD a = .ins "Rig" [("told", arD a)] from rfl, show rigD b = .ins "Rig" [("told", arD b)] from rfl, rig_told, e_added fa fb fit]
  have := mk_rig (a := addA a b 1) (R := [])
  simp only [List.length_nil, List.nil_append] at this ⊢
  rw [this]; rfl
theorem e_rig_sub {a b : Arms} {R : Rs} (fa : Fit a) (fb : Fit b) (fit : Fit (addA a b (-1))) : f_Rig_sub [rigD a, rigD b] R = .ok (rigD (addA a b (-1))) R := by
  unfold f_Rig_sub
  refine pureF_ok ?_
  unfold m_Rig_sub
  simp only [calmF_ap, le_line, lt_line, var_ap, c_ap, op_ap, un_ap, b_ap, and_ap, or_ap, not_ap, if_ap, andV_ap, orV_ap, ch_ap, nil_ap, cons_ap, star_ap, tup_ap, lst_ap, arm_ap, cb_ap, noPart_ap, part_ap, sl_ap, slL_ap, call_ap, callL_ap, mk_ap, fld_ap, prop_ap, meth_ap, callI_ap, get2_ap, dnew_ap, it_ap, itA_ap, yes_ap, next_ap, seq_ap, set_ap, setO_ap, drop_ap, ret_ap, retN_ap, brk_ap, cnt_ap, never_ap, ifS_ap, aug_ap, app_ap, ext_ap, pop_ap, par_ap, asg_ap, dset_ap, stF_ap, fldL_ap, see_f, see_g, okM_f, okM_g, okR_f, okR_g, okO_f, okO_g, hide_nil, hide_cons, setAll_cons, setAll_nil, wipe_nil, wipe_cons, runB_ap, runL_ap, startL_ap, startD_ap, out1_nx, out1_rt, dName_ap, dGTup_ap, dGLst_ap, dGCons_ap, dGNil_ap, dAdd_ap, dSub_ap, dMul_ap, dFdiv_ap, dMod_ap, dLt_ap, dLe_ap, dGt_ap, dGe_ap, bOf_ap, dNeg_ap, dNot_ap, eqS_int, eqS_bl, eqS_str, dInt1_ap, dInt1_bl, dMax2_ap, dMin2_ap, dAbs_ap, dSum_ap, dAny_ap, dAll_ap, dLen_l, dLen_t, dLen_a, dIx_l, dIx_t, dIx_a, dTup_ap, dLst_ap, dArm_ap, dList_l, dList_t, dTupl_ap, dTupA_ap, lstOf_ap, tupOf_t, tupOf_a, itemsOf_t, itemsOf_l, dSl_l, dSl_t, dSlL_ap, dCatL_ap, dIsN_ap, rng1_ap, rng2_ap, dRange_1, dRange_2, dRange3_ap, ownB_ap, ownT_ap, ownN_ap, eqI_ap, isC_y, il_int, il_bl, il_str, il_non, il_tup, il_lst, il_armD, il_ins, il_dic, il_ar, il_rig, Bool.false_eq_true, if_false, if_true, Res.bind_ok, Res.bind_bad, Res.out_ok, Res.out_bad, Res.calm_ok, List.map_cons, List.map_nil, List.length_cons, List.length_nil, Nat.reduceAdd, Nat.reduceSub, List.replicate, List.cons_append, List.nil_append, List.getElem?_cons_zero, List.getElem?_cons_succ, List.set_cons_succ, List.set_cons_zero, Bool.true_and, Bool.and_true, Bool.not_false, Bool.not_true, List.contains_nil, Option.bind_some, for_ap, lc_ap, Nat.reduceEqDiff, Nat.reduceLeDiff, Bool.false_xor, Bool.true_xor, and_self, decide_true, decide_false, List.lookup, List.all_cons, List.all_nil, List.contains_cons, Nat.reduceBEq, Bool.or_false, Bool.false_or, Bool.or_true, Bool.true_or, beq_self_eq_true, List.contains_nil, show rigD a = .ins "Rig" [("told", arD a)] from rfl, show rigD b = .ins "Rig" [("told", arD b)] from rfl, rig_told, e_added fa fb fit]
  have := mk_rig (a := addA a b (-1)) (R := [])
  simp only [List.length_nil, List.nil_append] at this ⊢
  rw [this]; rfl
theorem fit_nil : Fit [] := ⟨⟨.nil, by simp⟩, by simp, by simp, by simp⟩
theorem e_rig_neg {a : Arms} {R : Rs} (fa : Fit a) (fit : Fit (addA [] a (-1))) : f_Rig_neg [rigD a] R = .ok (rigD (addA [] a (-1))) R := by
  unfold f_Rig_neg
  refine pureF_ok ?_
  unfold m_Rig_neg
  simp only [calmF_ap, le_line, lt_line, var_ap, c_ap, op_ap, un_ap, b_ap, and_ap, or_ap, not_ap, if_ap, andV_ap, orV_ap, ch_ap, nil_ap, cons_ap, star_ap, tup_ap, lst_ap, arm_ap, cb_ap, noPart_ap, part_ap, sl_ap, slL_ap, call_ap, callL_ap, mk_ap, fld_ap, prop_ap, meth_ap, callI_ap, get2_ap, dnew_ap, it_ap, itA_ap, yes_ap, next_ap, seq_ap, set_ap, setO_ap, drop_ap, ret_ap, retN_ap, brk_ap, cnt_ap, never_ap, ifS_ap, aug_ap, app_ap, ext_ap, pop_ap, par_ap, asg_ap, dset_ap, stF_ap, fldL_ap, see_f, see_g, okM_f, okM_g, okR_f, okR_g, okO_f, okO_g, hide_nil, hide_cons, setAll_cons, setAll_nil, wipe_nil, wipe_cons, runB_ap, runL_ap, startL_ap, startD_ap, out1_nx, out1_rt, dName_ap, dGTup_ap, dGLst_ap, dGCons_ap, dGNil_ap, dAdd_ap, dSub_ap, dMul_ap, dFdiv_ap, dMod_ap, dLt_ap, dLe_ap, dGt_ap, dGe_ap, bOf_ap, dNeg_ap, dNot_ap, eqS_int, eqS_bl, eqS_str, dInt1_ap, dInt1_bl, dMax2_ap, dMin2_ap, dAbs_ap, dSum_ap, dAny_ap, dAll_ap, dLen_l, dLen_t, dLen_a, dIx_l, dIx_t, dIx_a, dTup_ap, dLst_ap, dArm_ap, dList_l, dList_t, dTupl_ap, dTupA_ap, lstOf_ap, tupOf_t, tupOf_a, itemsOf_t, itemsOf_l, dSl_l, dSl_t, dSlL_ap, dCatL_ap, dIsN_ap, rng1_ap, rng2_ap, dRange_1, dRange_2, dRange3_ap, ownB_ap, ownT_ap, ownN_ap, eqI_ap, isC_y, il_int, il_bl, il_str, il_non, il_tup, il_lst, il_armD, il_ins, il_dic, il_ar, il_rig, Bool.false_eq_true, if_false, if_true, Res.bind_ok, Res.bind_bad, Res.out_ok, Res.out_bad, Res.calm_ok, List.map_cons, List.map_nil, List.length_cons, List.length_nil, Nat.reduceAdd, Nat.reduceSub, List.replicate, List.cons_append, List.nil_append, List.getElem?_cons_zero, List.getElem?_cons_succ, List.set_cons_succ, List.set_cons_zero, Bool.true_and, Bool.and_true, Bool.not_false, Bool.not_true, List.contains_nil, Option.bind_some, for_ap, lc_ap, Nat.reduceEqDiff, Nat.reduceLeDiff, Bool.false_xor, Bool.true_xor, and_self, decide_true, decide_false, List.lookup, List.all_cons, List.all_nil, List.contains_cons, Nat.reduceBEq, Bool.or_false, Bool.false_or, Bool.or_true, Bool.true_or, beq_self_eq_true, List.contains_nil, show rigD a = .ins "Rig" [("told", arD a)] from rfl, rig_told, Nat.zero_le, arD_nil, e_added fit_nil fa fit]
  have := mk_rig (a := addA [] a (-1)) (R := [])
  simp only [List.length_nil, List.nil_append] at this ⊢
  rw [this]; rfl
theorem e_is_int_in {i lo hi : Int} {R : Rs} : f_is_int_in [.int i, .int lo, .int hi] R = .ok (.bl (decide (lo ≤ i) && decide (i ≤ hi))) R := by
  have h0 : f_is_int [.int i] [] = .ok (.bl true) [] := rfl
  unfold f_is_int_in
  refine pureF_ok ?_
  unfold m_is_int_in
  simp only [calmF_ap, le_line, lt_line, var_ap, c_ap, op_ap, un_ap, b_ap, and_ap, or_ap, not_ap, if_ap, andV_ap, orV_ap, ch_ap, nil_ap, cons_ap, star_ap, tup_ap, lst_ap, arm_ap, cb_ap, noPart_ap, part_ap, sl_ap, slL_ap, call_ap, callL_ap, mk_ap, fld_ap, prop_ap, meth_ap, callI_ap, get2_ap, dnew_ap, it_ap, itA_ap, yes_ap, next_ap, seq_ap, set_ap, setO_ap, drop_ap, ret_ap, retN_ap, brk_ap, cnt_ap, never_ap, ifS_ap, aug_ap, app_ap, ext_ap, pop_ap, par_ap, asg_ap, dset_ap, stF_ap, fldL_ap, see_f, see_g, okM_f, okM_g, okR_f, okR_g, okO_f, okO_g, hide_nil, hide_cons, setAll_cons, setAll_nil, wipe_nil, wipe_cons, runB_ap, runL_ap, startL_ap, startD_ap, out1_nx, out1_rt, dName_ap, dGTup_ap, dGLst_ap, dGCons_ap, dGNil_ap, dAdd_ap, dSub_ap, dMul_ap, dFdiv_ap, dMod_ap, dLt_ap, dLe_ap, dGt_ap, dGe_ap, bOf_ap, dNeg_ap, dNot_ap, eqS_int, eqS_bl, eqS_str, dInt1_ap, dInt1_bl, dMax2_ap, dMin2_ap, dAbs_ap, dSum_ap, dAny_ap, dAll_ap, dLen_l, dLen_t, dLen_a, dIx_l, dIx_t, dIx_a, dTup_ap, dLst_ap, dArm_ap, dList_l, dList_t, dTupl_ap, dTupA_ap, lstOf_ap, tupOf_t, tupOf_a, itemsOf_t, itemsOf_l, dSl_l, dSl_t, dSlL_ap, dCatL_ap, dIsN_ap, rng1_ap, rng2_ap, dRange_1, dRange_2, dRange3_ap, ownB_ap, ownT_ap, ownN_ap, eqI_ap, isC_y, il_int, il_bl, il_str, il_non, il_tup, il_lst, il_armD, il_ins, il_dic, il_ar, il_rig, Bool.false_eq_true, if_false, if_true, Res.bind_ok, Res.bind_bad, Res.out_ok, Res.out_bad, Res.calm_ok, List.map_cons, List.map_nil, List.length_cons, List.length_nil, Nat.reduceAdd, Nat.reduceSub, List.replicate, List.cons_append, List.nil_append, List.getElem?_cons_zero, List.getElem?_cons_succ, List.set_cons_succ, List.set_cons_zero, Bool.true_and, Bool.and_true, Bool.not_false, Bool.not_true, List.contains_nil, Option.bind_some, for_ap, lc_ap, Nat.reduceEqDiff, Nat.reduceLeDiff, Bool.false_xor, Bool.true_xor, and_self, decide_true, decide_false, List.lookup, List.all_cons, List.all_nil, List.contains_cons, Nat.reduceBEq, Bool.or_false, Bool.false_or, Bool.or_true, Bool.true_or, beq_self_eq_true, List.contains_nil, h0]
  by_cases h : lo ≤ i
  · simp only [h, calmF_ap, le_line, lt_line, var_ap, c_ap, op_ap, un_ap, b_ap, and_ap, or_ap, not_ap, if_ap, andV_ap, orV_ap, ch_ap, nil_ap, cons_ap, star_ap, tup_ap, lst_ap, arm_ap, cb_ap, noPart_ap, part_ap, sl_ap, slL_ap, call_ap, callL_ap, mk_ap, fld_ap, prop_ap, meth_ap, callI_ap, get2_ap, dnew_ap, it_ap, itA_ap, yes_ap, next_ap, seq_ap, set_ap, setO_ap, drop_ap, ret_ap, retN_ap, brk_ap, cnt_ap, never_ap, ifS_ap, aug_ap, app_ap, ext_ap, pop_ap, par_ap, asg_ap, dset_ap, stF_ap, fldL_ap, see_f, see_g, okM_f, okM_g, okR_f, okR_g, okO_f, okO_g, hide_nil, hide_cons, setAll_cons, setAll_nil, wipe_nil, wipe_cons, runB_ap, runL_ap, startL_ap, startD_ap, out1_nx, out1_rt, dName_ap, dGTup_ap, dGLst_ap, dGCons_ap, dGNil_ap, dAdd_ap, dSub_ap, dMul_ap, dFdiv_ap, dMod_ap, dLt_ap, dLe_ap, dGt_ap, dGe_ap, bOf_ap, dNeg_ap, dNot_ap, eqS_int, eqS_bl, eqS_str, dInt1_ap, dInt1_bl, dMax2_ap, dMin2_ap, dAbs_ap, dSum_ap, dAny_ap, dAll_ap, dLen_l, dLen_t, dLen_a, dIx_l, dIx_t, dIx_a, dTup_ap, dLst_ap, dArm_ap, dList_l, dList_t, dTupl_ap, dTupA_ap, lstOf_ap, tupOf_t, tupOf_a, itemsOf_t, itemsOf_l, dSl_l, dSl_t, dSlL_ap, dCatL_ap, dIsN_ap, rng1_ap, rng2_ap, dRange_1, dRange_2, dRange3_ap, ownB_ap, ownT_ap, ownN_ap, eqI_ap, isC_y, il_int, il_bl, il_str, il_non, il_tup, il_lst, il_armD, il_ins, il_dic, il_ar, il_rig, Bool.false_eq_true, if_false, if_true, Res.bind_ok, Res.bind_bad, Res.out_ok, Res.out_bad, Res.calm_ok, List.map_cons, List.map_nil, List.length_cons, List.length_nil, Nat.reduceAdd, Nat.reduceSub, List.replicate, List.cons_append, List.nil_append, List.getElem?_cons_zero, List.getElem?_cons_succ, List.set_cons_succ, List.set_cons_zero, Bool.true_and, Bool.and_true, Bool.not_false, Bool.not_true, List.contains_nil, Option.bind_some, for_ap, lc_ap, Nat.reduceEqDiff, Nat.reduceLeDiff, Bool.false_xor, Bool.true_xor, and_self, decide_true, decide_false, List.lookup, List.all_cons, List.all_nil, List.contains_cons, Nat.reduceBEq, Bool.or_false, Bool.false_or, Bool.or_true, Bool.true_or, beq_self_eq_true, List.contains_nil]
  · simp only [h, calmF_ap, le_line, lt_line, var_ap, c_ap, op_ap, un_ap, b_ap, and_ap, or_ap, not_ap, if_ap, andV_ap, orV_ap, ch_ap, nil_ap, cons_ap, star_ap, tup_ap, lst_ap, arm_ap, cb_ap, noPart_ap, part_ap, sl_ap, slL_ap, call_ap, callL_ap, mk_ap, fld_ap, prop_ap, meth_ap, callI_ap, get2_ap, dnew_ap, it_ap, itA_ap, yes_ap, next_ap, seq_ap, set_ap, setO_ap, drop_ap, ret_ap, retN_ap, brk_ap, cnt_ap, never_ap, ifS_ap, aug_ap, app_ap, ext_ap, pop_ap, par_ap, asg_ap, dset_ap, stF_ap, fldL_ap, see_f, see_g, okM_f, okM_g, okR_f, okR_g, okO_f, okO_g, hide_nil, hide_cons, setAll_cons, setAll_nil, wipe_nil, wipe_cons, runB_ap, runL_ap, startL_ap, startD_ap, out1_nx, out1_rt, dName_ap, dGTup_ap, dGLst_ap, dGCons_ap, dGNil_ap, dAdd_ap, dSub_ap, dMul_ap, dFdiv_ap, dMod_ap, dLt_ap, dLe_ap, dGt_ap, dGe_ap, bOf_ap, dNeg_ap, dNot_ap, eqS_int, eqS_bl, eqS_str, dInt1_ap, dInt1_bl, dMax2_ap, dMin2_ap, dAbs_ap, dSum_ap, dAny_ap, dAll_ap, dLen_l, dLen_t, dLen_a, dIx_l, dIx_t, dIx_a, dTup_ap, dLst_ap, dArm_ap, dList_l, dList_t, dTupl_ap, dTupA_ap, lstOf_ap, tupOf_t, tupOf_a, itemsOf_t, itemsOf_l, dSl_l, dSl_t, dSlL_ap, dCatL_ap, dIsN_ap, rng1_ap, rng2_ap, dRange_1, dRange_2, dRange3_ap, ownB_ap, ownT_ap, ownN_ap, eqI_ap, isC_y, il_int, il_bl, il_str, il_non, il_tup, il_lst, il_armD, il_ins, il_dic, il_ar, il_rig, Bool.false_eq_true, if_false, if_true, Res.bind_ok, Res.bind_bad, Res.out_ok, Res.out_bad, Res.calm_ok, List.map_cons, List.map_nil, List.length_cons, List.length_nil, Nat.reduceAdd, Nat.reduceSub, List.replicate, List.cons_append, List.nil_append, List.getElem?_cons_zero, List.getElem?_cons_succ, List.set_cons_succ, List.set_cons_zero, Bool.true_and, Bool.and_true, Bool.not_false, Bool.not_true, List.contains_nil, Option.bind_some, for_ap, lc_ap, Nat.reduceEqDiff, Nat.reduceLeDiff, Bool.false_xor, Bool.true_xor, and_self, decide_true, decide_false, List.lookup, List.all_cons, List.all_nil, List.contains_cons, Nat.reduceBEq, Bool.or_false, Bool.false_or, Bool.or_true, Bool.true_or, beq_self_eq_true, List.contains_nil, Bool.false_and]
theorem e_rig_mul {a : Arms} {t : Int} {R : Rs} (h1 : -99 ≤ t) (h2 : t ≤ 99) (fa : Fit a) (fit : Fit (addA [] a t)) : f_Rig_mul [rigD a, .int t] R = .ok (rigD (addA [] a t)) R := by
  unfold f_Rig_mul
  refine pureF_ok ?_
  unfold m_Rig_mul
  simp only [calmF_ap, le_line, lt_line, var_ap, c_ap, op_ap, un_ap, b_ap, and_ap, or_ap, not_ap, if_ap, andV_ap, orV_ap, ch_ap, nil_ap, cons_ap, star_ap, tup_ap, lst_ap, arm_ap, cb_ap, noPart_ap, part_ap, sl_ap, slL_ap, call_ap, callL_ap, mk_ap, fld_ap, prop_ap, meth_ap, callI_ap, get2_ap, dnew_ap, it_ap, itA_ap, yes_ap, next_ap, seq_ap, set_ap, setO_ap, drop_ap, ret_ap, retN_ap, brk_ap, cnt_ap, never_ap, ifS_ap, aug_ap, app_ap, ext_ap, pop_ap, par_ap, asg_ap, dset_ap, stF_ap, fldL_ap, see_f, see_g, okM_f, okM_g, okR_f, okR_g, okO_f, okO_g, hide_nil, hide_cons, setAll_cons, setAll_nil, wipe_nil, wipe_cons, runB_ap, runL_ap, startL_ap, startD_ap, out1_nx, out1_rt, dName_ap, dGTup_ap, dGLst_ap, dGCons_ap, dGNil_ap, dAdd_ap, dSub_ap, dMul_ap, dFdiv_ap, dMod_ap, dLt_ap, dLe_ap, dGt_ap, dGe_ap, bOf_ap, dNeg_ap, dNot_ap, eqS_int, eqS_bl, eqS_str, dInt1_ap, dInt1_bl, dMax2_ap, dMin2_ap, dAbs_ap, dSum_ap, dAny_ap, dAll_ap, dLen_l, dLen_t, dLen_a, dIx_l, dIx_t, dIx_a, dTup_ap, dLst_ap, dArm_ap, dList_l, dList_t, dTupl_ap, dTupA_ap, lstOf_ap, tupOf_t, tupOf_a, itemsOf_t, itemsOf_l, dSl_l, dSl_t, dSlL_ap, dCatL_ap, dIsN_ap, rng1_ap, rng2_ap, dRange_1, dRange_2, dRange3_ap, ownB_ap, ownT_ap, ownN_ap, eqI_ap, isC_y, il_int, il_bl, il_str, il_non, il_tup, il_lst, il_armD, il_ins, il_dic, il_ar, il_rig, Bool.false_eq_true, if_false, if_true, Res.bind_ok, Res.bind_bad, Res.out_ok, Res.out_bad, Res.calm_ok, List.map_cons, List.map_nil, List.length_cons, List.length_nil, Nat.reduceAdd, Nat.reduceSub, List.replicate, List.cons_append, List.nil_append, List.getElem?_cons_zero, List.getElem?_cons_succ, List.set_cons_succ, List.set_cons_zero, Bool.true_and, Bool.and_true, Bool.not_false, Bool.not_true, List.contains_nil, Option.bind_some, for_ap, lc_ap, Nat.reduceEqDiff, Nat.reduceLeDiff, Bool.false_xor, Bool.true_xor, and_self, decide_true, decide_false, List.lookup, List.all_cons, List.all_nil, List.contains_cons, Nat.reduceBEq, Bool.or_false, Bool.false_or, Bool.or_true, Bool.true_or, beq_self_eq_true, List.contains_nil, e_is_int_in, h1, h2, show rigD a = .ins "Rig" [("told", arD a)] from rfl, rig_told, Nat.zero_le, arD_nil, e_added fit_nil fa fit]
  have := mk_rig (a := addA [] a t) (R := [])
  simp only [List.length_nil, List.nil_append] at this ⊢
  rw [this]; rfl
theorem e_rig_rshift {a b : Arms} {R : Rs} (fa : Fit a) (fb : Fit b) (hr : Rises a) (fit : Fit (drA a b)) : f_Rig_rshift [rigD a, rigD b] R = .ok (rigD (drA a b)) R := by
  unfold f_Rig_rshift
  refine pureF_ok ?_
  unfold m_Rig_rshift
  have hn := (nf_rises fa.c).mpr hr
  simp only [calmF_ap, le_line, lt_line, var_ap, c_ap, op_ap, un_ap, b_ap, and_ap, or_ap, not_ap, if_ap, andV_ap, orV_ap, ch_ap, nil_ap, cons_ap, star_ap, tup_ap, lst_ap, arm_ap, cb_ap, noPart_ap, part_ap, sl_ap, slL_ap, call_ap, callL_ap, mk_ap, fld_ap, prop_ap, meth_ap, callI_ap, get2_ap, dnew_ap, it_ap, itA_ap, yes_ap, next_ap, seq_ap, set_ap, setO_ap, drop_ap, ret_ap, retN_ap, brk_ap, cnt_ap, never_ap, ifS_ap, aug_ap, app_ap, ext_ap, pop_ap, par_ap, asg_ap, dset_ap, stF_ap, fldL_ap, see_f, see_g, okM_f, okM_g, okR_f, okR_g, okO_f, okO_g, hide_nil, hide_cons, setAll_cons, setAll_nil, wipe_nil, wipe_cons, runB_ap, runL_ap, startL_ap, startD_ap, out1_nx, out1_rt, dName_ap, dGTup_ap, dGLst_ap, dGCons_ap, dGNil_ap, dAdd_ap, dSub_ap, dMul_ap, dFdiv_ap, dMod_ap, dLt_ap, dLe_ap, dGt_ap, dGe_ap, bOf_ap, dNeg_ap, dNot_ap, eqS_int, eqS_bl, eqS_str, dInt1_ap, dInt1_bl, dMax2_ap, dMin2_ap, dAbs_ap, dSum_ap, dAny_ap, dAll_ap, dLen_l, dLen_t, dLen_a, dIx_l, dIx_t, dIx_a, dTup_ap, dLst_ap, dArm_ap, dList_l, dList_t, dTupl_ap, dTupA_ap, lstOf_ap, tupOf_t, tupOf_a, itemsOf_t, itemsOf_l, dSl_l, dSl_t, dSlL_ap, dCatL_ap, dIsN_ap, rng1_ap, rng2_ap, dRange_1, dRange_2, dRange3_ap, ownB_ap, ownT_ap, ownN_ap, eqI_ap, isC_y, il_int, il_bl, il_str, il_non, il_tup, il_lst, il_armD, il_ins, il_dic, il_ar, il_rig, Bool.false_eq_true, if_false, if_true, Res.bind_ok, Res.bind_bad, Res.out_ok, Res.out_bad, Res.calm_ok, List.map_cons, List.map_nil, List.length_cons, List.length_nil, Nat.reduceAdd, Nat.reduceSub, List.replicate, List.cons_append, List.nil_append, List.getElem?_cons_zero, List.getElem?_cons_succ, List.set_cons_succ, List.set_cons_zero, Bool.true_and, Bool.and_true, Bool.not_false, Bool.not_true, List.contains_nil, Option.bind_some, for_ap, lc_ap, Nat.reduceEqDiff, Nat.reduceLeDiff, Bool.false_xor, Bool.true_xor, and_self, decide_true, decide_false, List.lookup, List.all_cons, List.all_nil, List.contains_cons, Nat.reduceBEq, Bool.or_false, Bool.false_or, Bool.or_true, Bool.true_or, beq_self_eq_true, List.contains_nil, show rigD a = .ins "Rig" [("told", arD a)] from rfl, show rigD b = .ins "Rig" [("told", arD b)] from rfl, rig_told, e_never_falls, hn, e_driven fa fb fit]
  have := mk_rig (a := drA a b) (R := [])
  simp only [List.length_nil, List.nil_append] at this ⊢
  rw [this]; rfl
theorem e_rig_eq {a b : Arms} {R : Rs} : f_Rig_eq [rigD a, rigD b] R = .ok (.bl (decide (a = b))) R := by
  unfold f_Rig_eq
  refine pureF_ok ?_
  unfold m_Rig_eq
  simp only [calmF_ap, le_line, lt_line, var_ap, c_ap, op_ap, un_ap, b_ap, and_ap, or_ap, not_ap, if_ap, andV_ap, orV_ap, ch_ap, nil_ap, cons_ap, star_ap, tup_ap, lst_ap, arm_ap, cb_ap, noPart_ap, part_ap, sl_ap, slL_ap, call_ap, callL_ap, mk_ap, fld_ap, prop_ap, meth_ap, callI_ap, get2_ap, dnew_ap, it_ap, itA_ap, yes_ap, next_ap, seq_ap, set_ap, setO_ap, drop_ap, ret_ap, retN_ap, brk_ap, cnt_ap, never_ap, ifS_ap, aug_ap, app_ap, ext_ap, pop_ap, par_ap, asg_ap, dset_ap, stF_ap, fldL_ap, see_f, see_g, okM_f, okM_g, okR_f, okR_g, okO_f, okO_g, hide_nil, hide_cons, setAll_cons, setAll_nil, wipe_nil, wipe_cons, runB_ap, runL_ap, startL_ap, startD_ap, out1_nx, out1_rt, dName_ap, dGTup_ap, dGLst_ap, dGCons_ap, dGNil_ap, dAdd_ap, dSub_ap, dMul_ap, dFdiv_ap, dMod_ap, dLt_ap, dLe_ap, dGt_ap, dGe_ap, bOf_ap, dNeg_ap, dNot_ap, eqS_int, eqS_bl, eqS_str, dInt1_ap, dInt1_bl, dMax2_ap, dMin2_ap, dAbs_ap, dSum_ap, dAny_ap, dAll_ap, dLen_l, dLen_t, dLen_a, dIx_l, dIx_t, dIx_a, dTup_ap, dLst_ap, dArm_ap, dList_l, dList_t, dTupl_ap, dTupA_ap, lstOf_ap, tupOf_t, tupOf_a, itemsOf_t, itemsOf_l, dSl_l, dSl_t, dSlL_ap, dCatL_ap, dIsN_ap, rng1_ap, rng2_ap, dRange_1, dRange_2, dRange3_ap, ownB_ap, ownT_ap, ownN_ap, eqI_ap, isC_y, il_int, il_bl, il_str, il_non, il_tup, il_lst, il_armD, il_ins, il_dic, il_ar, il_rig, Bool.false_eq_true, if_false, if_true, Res.bind_ok, Res.bind_bad, Res.out_ok, Res.out_bad, Res.calm_ok, List.map_cons, List.map_nil, List.length_cons, List.length_nil, Nat.reduceAdd, Nat.reduceSub, List.replicate, List.cons_append, List.nil_append, List.getElem?_cons_zero, List.getElem?_cons_succ, List.set_cons_succ, List.set_cons_zero, Bool.true_and, Bool.and_true, Bool.not_false, Bool.not_true, List.contains_nil, Option.bind_some, for_ap, lc_ap, Nat.reduceEqDiff, Nat.reduceLeDiff, Bool.false_xor, Bool.true_xor, and_self, decide_true, decide_false, List.lookup, List.all_cons, List.all_nil, List.contains_cons, Nat.reduceBEq, Bool.or_false, Bool.false_or, Bool.or_true, Bool.true_or, beq_self_eq_true, List.contains_nil, show rigD a = .ins "Rig" [("told", arD a)] from rfl, show rigD b = .ins "Rig" [("told", arD b)] from rfl, rig_told, eqD_ar]
theorem e_rod {s : Int} {R : Rs} (h0 : 0 ≤ s) (h1 : s ≤ 99) : f_rod [.int s] R = .ok (rigD [(s, 1)]) R := by
  unfold f_rod
  refine pureF_ok ?_
  unfold m_rod
  have h2 : mkEnd "Rig" 0 (f_Rig_init 0 [D.arm [D.tup [.int s, .int 1]]] [.ins "Rig" []]) = .ok (rigD [(s, 1)]) [] := mk_rig (a := [(s, 1)]) (R := [])
  simp only [calmF_ap, le_line, lt_line, var_ap, c_ap, op_ap, un_ap, b_ap, and_ap, or_ap, not_ap, if_ap, andV_ap, orV_ap, ch_ap, nil_ap, cons_ap, star_ap, tup_ap, lst_ap, arm_ap, cb_ap, noPart_ap, part_ap, sl_ap, slL_ap, call_ap, callL_ap, mk_ap, fld_ap, prop_ap, meth_ap, callI_ap, get2_ap, dnew_ap, it_ap, itA_ap, yes_ap, next_ap, seq_ap, set_ap, setO_ap, drop_ap, ret_ap, retN_ap, brk_ap, cnt_ap, never_ap, ifS_ap, aug_ap, app_ap, ext_ap, pop_ap, par_ap, asg_ap, dset_ap, stF_ap, fldL_ap, see_f, see_g, okM_f, okM_g, okR_f, okR_g, okO_f, okO_g, hide_nil, hide_cons, setAll_cons, setAll_nil, wipe_nil, wipe_cons, runB_ap, runL_ap, startL_ap, startD_ap, out1_nx, out1_rt, dName_ap, dGTup_ap, dGLst_ap, dGCons_ap, dGNil_ap, dAdd_ap, dSub_ap, dMul_ap, dFdiv_ap, dMod_ap, dLt_ap, dLe_ap, dGt_ap, dGe_ap, bOf_ap, dNeg_ap, dNot_ap, eqS_int, eqS_bl, eqS_str, dInt1_ap, dInt1_bl, dMax2_ap, dMin2_ap, dAbs_ap, dSum_ap, dAny_ap, dAll_ap, dLen_l, dLen_t, dLen_a, dIx_l, dIx_t, dIx_a, dTup_ap, dLst_ap, dArm_ap, dList_l, dList_t, dTupl_ap, dTupA_ap, lstOf_ap, tupOf_t, tupOf_a, itemsOf_t, itemsOf_l, dSl_l, dSl_t, dSlL_ap, dCatL_ap, dIsN_ap, rng1_ap, rng2_ap, dRange_1, dRange_2, dRange3_ap, ownB_ap, ownT_ap, ownN_ap, eqI_ap, isC_y, il_int, il_bl, il_str, il_non, il_tup, il_lst, il_armD, il_ins, il_dic, il_ar, il_rig, Bool.false_eq_true, if_false, if_true, Res.bind_ok, Res.bind_bad, Res.out_ok, Res.out_bad, Res.calm_ok, List.map_cons, List.map_nil, List.length_cons, List.length_nil, Nat.reduceAdd, Nat.reduceSub, List.replicate, List.cons_append, List.nil_append, List.getElem?_cons_zero, List.getElem?_cons_succ, List.set_cons_succ, List.set_cons_zero, Bool.true_and, Bool.and_true, Bool.not_false, Bool.not_true, List.contains_nil, Option.bind_some, for_ap, lc_ap, Nat.reduceEqDiff, Nat.reduceLeDiff, Bool.false_xor, Bool.true_xor, and_self, decide_true, decide_false, List.lookup, List.all_cons, List.all_nil, List.contains_cons, Nat.reduceBEq, Bool.or_false, Bool.false_or, Bool.or_true, Bool.true_or, beq_self_eq_true, List.contains_nil, e_is_int_in, h0, h1, h2]
end Lw

namespace Lw
open PySem PySem.Spec PyProof.Rows L2 Sr Pv Rg
/-! ### trees as data -/
def trD : Tr → D
  | .rod s => .tup [.str "rod", .int s]
  | .mul t k => .tup [.str "*", trD t, .int k]
  | .neg t => .tup [.str "neg", trD t]
  | .add a b => .tup [.str "+", trD a, trD b]
  | .sub a b => .tup [.str "-", trD a, trD b]
  | .chn a b => .tup [.str ">>", trD a, trD b]
theorem il_tr (t : Tr) : (trD t).isLoc = false := by cases t <;> rfl
theorem w00 : decide (("rod" : Str) = "rod") = true := by decide
theorem w01 : decide (("rod" : Str) = "*") = false := by decide
theorem w02 : decide (("rod" : Str) = "neg") = false := by decide
theorem w03 : decide (("rod" : Str) = "+") = false := by decide
theorem w04 : decide (("rod" : Str) = "-") = false := by decide
theorem w05 : decide (("rod" : Str) = ">>") = false := by decide
theorem w10 : decide (("*" : Str) = "rod") = false := by decide
theorem w11 : decide (("*" : Str) = "*") = true := by decide
theorem w12 : decide (("*" : Str) = "neg") = false := by decide
theorem w13 : decide (("*" : Str) = "+") = false := by decide
theorem w14 : decide (("*" : Str) = "-") = false := by decide
theorem w15 : decide (("*" : Str) = ">>") = false := by decide
theorem w20 : decide (("neg" : Str) = "rod") = false := by decide
theorem w21 : decide (("neg" : Str) = "*") = false := by decide
theorem w22 : decide (("neg" : Str) = "neg") = true := by decide
theorem w23 : decide (("neg" : Str) = "+") = false := by decide
theorem w24 : decide (("neg" : Str) = "-") = false := by decide
theorem w25 : decide (("neg" : Str) = ">>") = false := by decide
theorem w30 : decide (("+" : Str) = "rod") = false := by decide
theorem w31 : decide (("+" : Str) = "*") = false := by decide
theorem w32 : decide (("+" : Str) = "neg") = false := by decide
theorem w33 : decide (("+" : Str) = "+") = true := by decide
theorem w34 : decide (("+" : Str) = "-") = false := by decide
theorem w35 : decide (("+" : Str) = ">>") = false := by decide
theorem w40 : decide (("-" : Str) = "rod") = false := by decide
theorem w41 : decide (("-" : Str) = "*") = false := by decide
theorem w42 : decide (("-" : Str) = "neg") = false := by decide
theorem w43 : decide (("-" : Str) = "+") = false := by decide
theorem w44 : decide (("-" : Str) = "-") = true := by decide
theorem w45 : decide (("-" : Str) = ">>") = false := by decide
theorem w50 : decide ((">>" : Str) = "rod") = false := by decide
theorem w51 : decide ((">>" : Str) = "*") = false := by decide
theorem w52 : decide ((">>" : Str) = "neg") = false := by decide
theorem w53 : decide ((">>" : Str) = "+") = false := by decide
theorem w54 : decide ((">>" : Str) = "-") = false := by decide
theorem w55 : decide ((">>" : Str) = ">>") = true := by decide
theorem at0 {α : Type} {x : α} {xs : List α} : atI (x :: xs) 0 = some x := by
  unfold atI ixN; rw [if_pos (by omega), if_pos (by simp only [List.length_cons]; omega)]; rfl
theorem at1 {α : Type} {x y : α} {xs : List α} : atI (x :: y :: xs) 1 = some y := by
  unfold atI ixN; rw [if_pos (by omega), if_pos (by simp only [List.length_cons]; omega)]; rfl
theorem at2 {α : Type} {x y z : α} {xs : List α} : atI (x :: y :: z :: xs) 2 = some z := by
  unfold atI ixN; rw [if_pos (by omega), if_pos (by simp only [List.length_cons]; omega)]; rfl
theorem fit_rb {a : Arms} {M L : Int} {n : Nat} (r : RB a M L n) (h1 : M ≤ 999) (h2 : 2 * L ≤ 1000000) (h3 : n ≤ 60) : Fit a :=
  ⟨r.c, Nat.le_trans r.n h3, fun p hp => by have := r.arm hp; omega, fun p hp => Int.le_trans (r.m p hp) h1⟩
theorem _root_.Rg.TOk.fit {n : Nat} {t : Tr} (h : TOk n t) (hn : n ≤ 3) : Fit t.ar := by
  have r := (h.rb hn).1
  refine fit_rb r ?_ ?_ ?_
  · match n, hn with | 0, _ => decide | 1, _ => decide | 2, _ => decide | 3, _ => decide
  · match n, hn with | 0, _ => decide | 1, _ => decide | 2, _ => decide | 3, _ => decide
  · match n, hn with | 0, _ => decide | 1, _ => decide | 2, _ => decide | 3, _ => decide
theorem e_rig : ∀ {n : Nat} {t : Tr}, TOk n t → n ≤ 3 → ∀ k, n < k → r_L_rig k [trD t] [] = .ok (rigD t.ar) []
  | n, _, .rod h0 h6, hn, k + 1, hk => by
    unfold r_L_rig m_L_rig
    simp only [calmF_ap, le_line, lt_line, var_ap, c_ap, op_ap, un_ap, b_ap, and_ap, or_ap, not_ap, if_ap, andV_ap, orV_ap, ch_ap, nil_ap, cons_ap, star_ap, tup_ap, lst_ap, arm_ap, cb_ap, noPart_ap, part_ap, sl_ap, slL_ap, call_ap, callL_ap, mk_ap, fld_ap, prop_ap, meth_ap, callI_ap, get2_ap, dnew_ap, it_ap, itA_ap, yes_ap, next_ap, seq_ap, set_ap, setO_ap, drop_ap, ret_ap, retN_ap, brk_ap, cnt_ap, never_ap, ifS_ap, aug_ap, app_ap, ext_ap, pop_ap, par_ap, asg_ap, dset_ap, stF_ap, fldL_ap, see_f, see_g, okM_f, okM_g, okR_f, okR_g, okO_f, okO_g, hide_nil, hide_cons, setAll_cons, setAll_nil, wipe_nil, wipe_cons, runB_ap, runL_ap, startL_ap, startD_ap, out1_nx, out1_rt, dName_ap, dGTup_ap, dGLst_ap, dGCons_ap, dGNil_ap, dAdd_ap, dSub_ap, dMul_ap, dFdiv_ap, dMod_ap, dLt_ap, dLe_ap, dGt_ap, dGe_ap, bOf_ap, dNeg_ap, dNot_ap, eqS_int, eqS_bl, eqS_str, dInt1_ap, dInt1_bl, dMax2_ap, dMin2_ap, dAbs_ap, dSum_ap, dAny_ap, dAll_ap, dLen_l, dLen_t, dLen_a, dIx_l, dIx_t, dIx_a, dTup_ap, dLst_ap, dArm_ap, dList_l, dList_t, dTupl_ap, dTupA_ap, lstOf_ap, tupOf_t, tupOf_a, itemsOf_t, itemsOf_l, dSl_l, dSl_t, dSlL_ap, dCatL_ap, dIsN_ap, rng1_ap, rng2_ap, dRange_1, dRange_2, dRange3_ap, ownB_ap, ownT_ap, ownN_ap, eqI_ap, isC_y, il_int, il_bl, il_str, il_non, il_tup, il_lst, il_armD, il_ins, il_dic, il_ar, il_rig, Bool.false_eq_true, if_false, if_true, Res.bind_ok, Res.bind_bad, Res.out_ok, Res.out_bad, Res.calm_ok, List.map_cons, List.map_nil, List.length_cons, List.length_nil, Nat.reduceAdd, Nat.reduceSub, List.replicate, List.cons_append, List.nil_append, List.getElem?_cons_zero, List.getElem?_cons_succ, List.set_cons_succ, List.set_cons_zero, Bool.true_and, Bool.and_true, Bool.not_false, Bool.not_true, List.contains_nil, Option.bind_some, for_ap, lc_ap, Nat.reduceEqDiff, Nat.reduceLeDiff, Bool.false_xor, Bool.true_xor, and_self, decide_true, decide_false, List.lookup, List.all_cons, List.all_nil, List.contains_cons, Nat.reduceBEq, Bool.or_false, Bool.false_or, Bool.or_true, Bool.true_or, beq_self_eq_true, List.contains_nil, trD, at0, at1, w00, w01, w02, w03, w04, w05, w10, w11, w12, w13, w14, w15, w20, w21, w22, w23, w24, w25, w30, w31, w32, w33, w34, w35, w40, w41, w42, w43, w44, w45, w50, w51, w52, w53, w54, w55, il_tr, e_rod h0 (by omega), Tr.ar]
  | n + 1, _, .mul (t := t) (k := c) ht h1 h2, hn, k + 1, hk => by
    have f := (TOk.mul ht h1 h2).fit hn
    unfold r_L_rig m_L_rig
    simp only [calmF_ap, le_line, lt_line, var_ap, c_ap, op_ap, un_ap, b_ap, and_ap, or_ap, not_ap, if_ap, andV_ap, orV_ap, ch_ap, nil_ap, cons_ap, star_ap, tup_ap, lst_ap, arm_ap, cb_ap, noPart_ap, part_ap, sl_ap, slL_ap, call_ap, callL_ap, mk_ap, fld_ap, prop_ap, meth_ap, callI_ap, get2_ap, dnew_ap, it_ap, itA_ap, yes_ap, next_ap, seq_ap, set_ap, setO_ap, drop_ap, ret_ap, retN_ap, brk_ap, cnt_ap, never_ap, ifS_ap, aug_ap, app_ap, ext_ap, pop_ap, par_ap, asg_ap, dset_ap, stF_ap, fldL_ap, see_f, see_g, okM_f, okM_g, okR_f, okR_g, okO_f, okO_g, hide_nil, hide_cons, setAll_cons, setAll_nil, wipe_nil, wipe_cons, runB_ap, runL_ap, startL_ap, startD_ap, out1_nx, out1_rt, dName_ap, dGTup_ap, dGLst_ap, dGCons_ap, dGNil_ap, dAdd_ap, dSub_ap, dMul_ap, dFdiv_ap, dMod_ap, dLt_ap, dLe_ap, dGt_ap, dGe_ap, bOf_ap, dNeg_ap, dNot_ap, eqS_int, eqS_bl, eqS_str, dInt1_ap, dInt1_bl, dMax2_ap, dMin2_ap, dAbs_ap, dSum_ap, dAny_ap, dAll_ap, dLen_l, dLen_t, dLen_a, dIx_l, dIx_t, dIx_a, dTup_ap, dLst_ap, dArm_ap, dList_l, dList_t, dTupl_ap, dTupA_ap, lstOf_ap, tupOf_t, tupOf_a, itemsOf_t, itemsOf_l, dSl_l, dSl_t, dSlL_ap, dCatL_ap, dIsN_ap, rng1_ap, rng2_ap, dRange_1, dRange_2, dRange3_ap, ownB_ap, ownT_ap, ownN_ap, eqI_ap, isC_y, il_int, il_bl, il_str, il_non, il_tup, il_lst, il_armD, il_ins, il_dic, il_ar, il_rig, Bool.false_eq_true, if_false, if_true, Res.bind_ok, Res.bind_bad, Res.out_ok, Res.out_bad, Res.calm_ok, List.map_cons, List.map_nil, List.length_cons, List.length_nil, Nat.reduceAdd, Nat.reduceSub, List.replicate, List.cons_append, List.nil_append, List.getElem?_cons_zero, List.getElem?_cons_succ, List.set_cons_succ, List.set_cons_zero, Bool.true_and, Bool.and_true, Bool.not_false, Bool.not_true, List.contains_nil, Option.bind_some, for_ap, lc_ap, Nat.reduceEqDiff, Nat.reduceLeDiff, Bool.false_xor, Bool.true_xor, and_self, decide_true, decide_false, List.lookup, List.all_cons, List.all_nil, List.contains_cons, Nat.reduceBEq, Bool.or_false, Bool.false_or, Bool.or_true, Bool.true_or, beq_self_eq_true, List.contains_nil, trD, at0, at1, at2, w00, w01, w02, w03, w04, w05, w10, w11, w12, w13, w14, w15, w20, w21, w22, w23, w24, w25, w30, w31, w32, w33, w34, w35, w40, w41, w42, w43, w44, w45, w50, w51, w52, w53, w54, w55, il_tr, e_rig ht (by omega) k (by omega)]
    rw [show rigD t.ar = .ins "Rig" [("told", arD t.ar)] from rfl]
    simp only [calmF_ap, le_line, lt_line, var_ap, c_ap, op_ap, un_ap, b_ap, and_ap, or_ap, not_ap, if_ap, andV_ap, orV_ap, ch_ap, nil_ap, cons_ap, star_ap, tup_ap, lst_ap, arm_ap, cb_ap, noPart_ap, part_ap, sl_ap, slL_ap, call_ap, callL_ap, mk_ap, fld_ap, prop_ap, meth_ap, callI_ap, get2_ap, dnew_ap, it_ap, itA_ap, yes_ap, next_ap, seq_ap, set_ap, setO_ap, drop_ap, ret_ap, retN_ap, brk_ap, cnt_ap, never_ap, ifS_ap, aug_ap, app_ap, ext_ap, pop_ap, par_ap, asg_ap, dset_ap, stF_ap, fldL_ap, see_f, see_g, okM_f, okM_g, okR_f, okR_g, okO_f, okO_g, hide_nil, hide_cons, setAll_cons, setAll_nil, wipe_nil, wipe_cons, runB_ap, runL_ap, startL_ap, startD_ap, out1_nx, out1_rt, dName_ap, dGTup_ap, dGLst_ap, dGCons_ap, dGNil_ap, dAdd_ap, dSub_ap, dMul_ap, dFdiv_ap, dMod_ap, dLt_ap, dLe_ap, dGt_ap, dGe_ap, bOf_ap, dNeg_ap, dNot_ap, eqS_int, eqS_bl, eqS_str, dInt1_ap, dInt1_bl, dMax2_ap, dMin2_ap, dAbs_ap, dSum_ap, dAny_ap, dAll_ap, dLen_l, dLen_t, dLen_a, dIx_l, dIx_t, dIx_a, dTup_ap, dLst_ap, dArm_ap, dList_l, dList_t, dTupl_ap, dTupA_ap, lstOf_ap, tupOf_t, tupOf_a, itemsOf_t, itemsOf_l, dSl_l, dSl_t, dSlL_ap, dCatL_ap, dIsN_ap, rng1_ap, rng2_ap, dRange_1, dRange_2, dRange3_ap, ownB_ap, ownT_ap, ownN_ap, eqI_ap, isC_y, il_int, il_bl, il_str, il_non, il_tup, il_lst, il_armD, il_ins, il_dic, il_ar, il_rig, Bool.false_eq_true, if_false, if_true, Res.bind_ok, Res.bind_bad, Res.out_ok, Res.out_bad, Res.calm_ok, List.map_cons, List.map_nil, List.length_cons, List.length_nil, Nat.reduceAdd, Nat.reduceSub, List.replicate, List.cons_append, List.nil_append, List.getElem?_cons_zero, List.getElem?_cons_succ, List.set_cons_succ, List.set_cons_zero, Bool.true_and, Bool.and_true, Bool.not_false, Bool.not_true, List.contains_nil, Option.bind_some, for_ap, lc_ap, Nat.reduceEqDiff, Nat.reduceLeDiff, Bool.false_xor, Bool.true_xor, and_self, decide_true, decide_false, List.lookup, List.all_cons, List.all_nil, List.contains_cons, Nat.reduceBEq, Bool.or_false, Bool.false_or, Bool.or_true, Bool.true_or, beq_self_eq_true, List.contains_nil]
    rw [← show rigD t.ar = .ins "Rig" [("told", arD t.ar)] from rfl, e_rig_mul (by omega) (by omega) (ht.fit (by omega)) f]
    rfl
  | n + 1, _, .neg (t := t) ht, hn, k + 1, hk => by
    have f := (TOk.neg ht).fit hn
    unfold r_L_rig m_L_rig
    simp only [calmF_ap, le_line, lt_line, var_ap, c_ap, op_ap, un_ap, b_ap, and_ap, or_ap, not_ap, if_ap, andV_ap, orV_ap, ch_ap, nil_ap, cons_ap, star_ap, tup_ap, lst_ap, arm_ap, cb_ap, noPart_ap, part_ap, sl_ap, slL_ap, call_ap, callL_ap, mk_ap, fld_ap, prop_ap, meth_ap, callI_ap, get2_ap, dnew_ap, it_ap, itA_ap, yes_ap, next_ap, seq_ap, set_ap, setO_ap, drop_ap, ret_ap, retN_ap, brk_ap, cnt_ap, never_ap, ifS_ap, aug_ap, app_ap, ext_ap, pop_ap, par_ap, asg_ap, dset_ap, stF_ap, fldL_ap, see_f, see_g, okM_f, okM_g, okR_f, okR_g, okO_f, okO_g, hide_nil, hide_cons, setAll_cons, setAll_nil, wipe_nil, wipe_cons, runB_ap, runL_ap, startL_ap, startD_ap, out1_nx, out1_rt, dName_ap, dGTup_ap, dGLst_ap, dGCons_ap, dGNil_ap, dAdd_ap, dSub_ap, dMul_ap, dFdiv_ap, dMod_ap, dLt_ap, dLe_ap, dGt_ap, dGe_ap, bOf_ap, dNeg_ap, dNot_ap, eqS_int, eqS_bl, eqS_str, dInt1_ap, dInt1_bl, dMax2_ap, dMin2_ap, dAbs_ap, dSum_ap, dAny_ap, dAll_ap, dLen_l, dLen_t, dLen_a, dIx_l, dIx_t, dIx_a, dTup_ap, dLst_ap, dArm_ap, dList_l, dList_t, dTupl_ap, dTupA_ap, lstOf_ap, tupOf_t, tupOf_a, itemsOf_t, itemsOf_l, dSl_l, dSl_t, dSlL_ap, dCatL_ap, dIsN_ap, rng1_ap, rng2_ap, dRange_1, dRange_2, dRange3_ap, ownB_ap, ownT_ap, ownN_ap, eqI_ap, isC_y, il_int, il_bl, il_str, il_non, il_tup, il_lst, il_armD, il_ins, il_dic, il_ar, il_rig, Bool.false_eq_true, if_false, if_true, Res.bind_ok, Res.bind_bad, Res.out_ok, Res.out_bad, Res.calm_ok, List.map_cons, List.map_nil, List.length_cons, List.length_nil, Nat.reduceAdd, Nat.reduceSub, List.replicate, List.cons_append, List.nil_append, List.getElem?_cons_zero, List.getElem?_cons_succ, List.set_cons_succ, List.set_cons_zero, Bool.true_and, Bool.and_true, Bool.not_false, Bool.not_true, List.contains_nil, Option.bind_some, for_ap, lc_ap, Nat.reduceEqDiff, Nat.reduceLeDiff, Bool.false_xor, Bool.true_xor, and_self, decide_true, decide_false, List.lookup, List.all_cons, List.all_nil, List.contains_cons, Nat.reduceBEq, Bool.or_false, Bool.false_or, Bool.or_true, Bool.true_or, beq_self_eq_true, List.contains_nil, trD, at0, at1, at2, w00, w01, w02, w03, w04, w05, w10, w11, w12, w13, w14, w15, w20, w21, w22, w23, w24, w25, w30, w31, w32, w33, w34, w35, w40, w41, w42, w43, w44, w45, w50, w51, w52, w53, w54, w55, il_tr, e_rig ht (by omega) k (by omega)]
    rw [show rigD t.ar = .ins "Rig" [("told", arD t.ar)] from rfl]
    simp only [calmF_ap, le_line, lt_line, var_ap, c_ap, op_ap, un_ap, b_ap, and_ap, or_ap, not_ap, if_ap, andV_ap, orV_ap, ch_ap, nil_ap, cons_ap, star_ap, tup_ap, lst_ap, arm_ap, cb_ap, noPart_ap, part_ap, sl_ap, slL_ap, call_ap, callL_ap, mk_ap, fld_ap, prop_ap, meth_ap, callI_ap, get2_ap, dnew_ap, it_ap, itA_ap, yes_ap, next_ap, seq_ap, set_ap, setO_ap, drop_ap, ret_ap, retN_ap, brk_ap, cnt_ap, never_ap, ifS_ap, aug_ap, app_ap, ext_ap, pop_ap, par_ap, asg_ap, dset_ap, stF_ap, fldL_ap, see_f, see_g, okM_f, okM_g, okR_f, okR_g, okO_f, okO_g, hide_nil, hide_cons, setAll_cons, setAll_nil, wipe_nil, wipe_cons, runB_ap, runL_ap, startL_ap, startD_ap, out1_nx, out1_rt, dName_ap, dGTup_ap, dGLst_ap, dGCons_ap, dGNil_ap, dAdd_ap, dSub_ap, dMul_ap, dFdiv_ap, dMod_ap, dLt_ap, dLe_ap, dGt_ap, dGe_ap, bOf_ap, dNeg_ap, dNot_ap, eqS_int, eqS_bl, eqS_str, dInt1_ap, dInt1_bl, dMax2_ap, dMin2_ap, dAbs_ap, dSum_ap, dAny_ap, dAll_ap, dLen_l, dLen_t, dLen_a, dIx_l, dIx_t, dIx_a, dTup_ap, dLst_ap, dArm_ap, dList_l, dList_t, dTupl_ap, dTupA_ap, lstOf_ap, tupOf_t, tupOf_a, itemsOf_t, itemsOf_l, dSl_l, dSl_t, dSlL_ap, dCatL_ap, dIsN_ap, rng1_ap, rng2_ap, dRange_1, dRange_2, dRange3_ap, ownB_ap, ownT_ap, ownN_ap, eqI_ap, isC_y, il_int, il_bl, il_str, il_non, il_tup, il_lst, il_armD, il_ins, il_dic, il_ar, il_rig, Bool.false_eq_true, if_false, if_true, Res.bind_ok, Res.bind_bad, Res.out_ok, Res.out_bad, Res.calm_ok, List.map_cons, List.map_nil, List.length_cons, List.length_nil, Nat.reduceAdd, Nat.reduceSub, List.replicate, List.cons_append, List.nil_append, List.getElem?_cons_zero, List.getElem?_cons_succ, List.set_cons_succ, List.set_cons_zero, Bool.true_and, Bool.and_true, Bool.not_false, Bool.not_true, List.contains_nil, Option.bind_some, for_ap, lc_ap, Nat.reduceEqDiff, Nat.reduceLeDiff, Bool.false_xor, Bool.true_xor, and_self, decide_true, decide_false, List.lookup, List.all_cons, List.all_nil, List.contains_cons, Nat.reduceBEq, Bool.or_false, Bool.false_or, Bool.or_true, Bool.true_or, beq_self_eq_true, List.contains_nil]
    rw [← show rigD t.ar = .ins "Rig" [("told", arD t.ar)] from rfl, e_rig_neg (ht.fit (by omega)) f]
    rfl
  | n + 1, _, .add (a := a) (b := b) ha hb, hn, k + 1, hk => by
    have f := (TOk.add ha hb).fit hn
    unfold r_L_rig m_L_rig
    simp only [calmF_ap, le_line, lt_line, var_ap, c_ap, op_ap, un_ap, b_ap, and_ap, or_ap, not_ap, if_ap, andV_ap, orV_ap, ch_ap, nil_ap, cons_ap, star_ap, tup_ap, lst_ap, arm_ap, cb_ap, noPart_ap, part_ap, sl_ap, slL_ap, call_ap, callL_ap, mk_ap, fld_ap, prop_ap, meth_ap, callI_ap, get2_ap, dnew_ap, it_ap, itA_ap, yes_ap, next_ap, seq_ap, set_ap, setO_ap, drop_ap, ret_ap, retN_ap, brk_ap, cnt_ap, never_ap, ifS_ap, aug_ap, app_ap, ext_ap, pop_ap, par_ap, asg_ap, dset_ap, stF_ap, fldL_ap, see_f, see_g, okM_f, okM_g, okR_f, okR_g, okO_f, okO_g, hide_nil, hide_cons, setAll_cons, setAll_nil, wipe_nil, wipe_cons, runB_ap, runL_ap, startL_ap, startD_ap, out1_nx, out1_rt, dName_ap, dGTup_ap, dGLst_ap, dGCons_ap, dGNil_ap, dAdd_ap, dSub_ap, dMul_ap, dFdiv_ap, dMod_ap, dLt_ap, dLe_ap, dGt_ap, dGe_ap, bOf_ap, dNeg_ap, dNot_ap, eqS_int, eqS_bl, eqS_str, dInt1_ap, dInt1_bl, dMax2_ap, dMin2_ap, dAbs_ap, dSum_ap, dAny_ap, dAll_ap, dLen_l, dLen_t, dLen_a, dIx_l, dIx_t, dIx_a, dTup_ap, dLst_ap, dArm_ap, dList_l, dList_t, dTupl_ap, dTupA_ap, lstOf_ap, tupOf_t, tupOf_a, itemsOf_t, itemsOf_l, dSl_l, dSl_t, dSlL_ap, dCatL_ap, dIsN_ap, rng1_ap, rng2_ap, dRange_1, dRange_2, dRange3_ap, ownB_ap, ownT_ap, ownN_ap, eqI_ap, isC_y, il_int, il_bl, il_str, il_non, il_tup, il_lst, il_armD, il_ins, il_dic, il_ar, il_rig, Bool.false_eq_true, if_false, if_true, Res.bind_ok, Res.bind_bad, Res.out_ok, Res.out_bad, Res.calm_ok, List.map_cons, List.map_nil, List.length_cons, List.length_nil, Nat.reduceAdd, Nat.reduceSub, List.replicate, List.cons_append, List.nil_append, List.getElem?_cons_zero, List.getElem?_cons_succ, List.set_cons_succ, List.set_cons_zero, Bool.true_and, Bool.and_true, Bool.not_false, Bool.not_true, List.contains_nil, Option.bind_some, for_ap, lc_ap, Nat.reduceEqDiff, Nat.reduceLeDiff, Bool.false_xor, Bool.true_xor, and_self, decide_true, decide_false, List.lookup, List.all_cons, List.all_nil, List.contains_cons, Nat.reduceBEq, Bool.or_false, Bool.false_or, Bool.or_true, Bool.true_or, beq_self_eq_true, List.contains_nil, trD, at0, at1, at2, w00, w01, w02, w03, w04, w05, w10, w11, w12, w13, w14, w15, w20, w21, w22, w23, w24, w25, w30, w31, w32, w33, w34, w35, w40, w41, w42, w43, w44, w45, w50, w51, w52, w53, w54, w55, il_tr, e_rig ha (by omega) k (by omega), e_rig hb (by omega) k (by omega)]
    rw [show rigD a.ar = .ins "Rig" [("told", arD a.ar)] from rfl, show rigD b.ar = .ins "Rig" [("told", arD b.ar)] from rfl]
    simp only [calmF_ap, le_line, lt_line, var_ap, c_ap, op_ap, un_ap, b_ap, and_ap, or_ap, not_ap, if_ap, andV_ap, orV_ap, ch_ap, nil_ap, cons_ap, star_ap, tup_ap, lst_ap, arm_ap, cb_ap, noPart_ap, part_ap, sl_ap, slL_ap, call_ap, callL_ap, mk_ap, fld_ap, prop_ap, meth_ap, callI_ap, get2_ap, dnew_ap, it_ap, itA_ap, yes_ap, next_ap, seq_ap, set_ap, setO_ap, drop_ap, ret_ap, retN_ap, brk_ap, cnt_ap, never_ap, ifS_ap, aug_ap, app_ap, ext_ap, pop_ap, par_ap, asg_ap, dset_ap, stF_ap, fldL_ap, see_f, see_g, okM_f, okM_g, okR_f, okR_g, okO_f, okO_g, hide_nil, hide_cons, setAll_cons, setAll_nil, wipe_nil, wipe_cons, runB_ap, runL_ap, startL_ap, startD_ap, out1_nx, out1_rt, dName_ap, dGTup_ap, dGLst_ap, dGCons_ap, dGNil_ap, dAdd_ap, dSub_ap, dMul_ap, dFdiv_ap, dMod_ap, dLt_ap, dLe_ap, dGt_ap, dGe_ap, bOf_ap, dNeg_ap, dNot_ap, eqS_int, eqS_bl, eqS_str, dInt1_ap, dInt1_bl, dMax2_ap, dMin2_ap, dAbs_ap, dSum_ap, dAny_ap, dAll_ap, dLen_l, dLen_t, dLen_a, dIx_l, dIx_t, dIx_a, dTup_ap, dLst_ap, dArm_ap, dList_l, dList_t, dTupl_ap, dTupA_ap, lstOf_ap, tupOf_t, tupOf_a, itemsOf_t, itemsOf_l, dSl_l, dSl_t, dSlL_ap, dCatL_ap, dIsN_ap, rng1_ap, rng2_ap, dRange_1, dRange_2, dRange3_ap, ownB_ap, ownT_ap, ownN_ap, eqI_ap, isC_y, il_int, il_bl, il_str, il_non, il_tup, il_lst, il_armD, il_ins, il_dic, il_ar, il_rig, Bool.false_eq_true, if_false, if_true, Res.bind_ok, Res.bind_bad, Res.out_ok, Res.out_bad, Res.calm_ok, List.map_cons, List.map_nil, List.length_cons, List.length_nil, Nat.reduceAdd, Nat.reduceSub, List.replicate, List.cons_append, List.nil_append, List.getElem?_cons_zero, List.getElem?_cons_succ, List.set_cons_succ, List.set_cons_zero, Bool.true_and, Bool.and_true, Bool.not_false, Bool.not_true, List.contains_nil, Option.bind_some, for_ap, lc_ap, Nat.reduceEqDiff, Nat.reduceLeDiff, Bool.false_xor, Bool.true_xor, and_self, decide_true, decide_false, List.lookup, List.all_cons, List.all_nil, List.contains_cons, Nat.reduceBEq, Bool.or_false, Bool.false_or, Bool.or_true, Bool.true_or, beq_self_eq_true, List.contains_nil]
    rw [← show rigD a.ar = .ins "Rig" [("told", arD a.ar)] from rfl, ← show rigD b.ar = .ins "Rig" [("told", arD b.ar)] from rfl, e_rig_add (ha.fit (by omega)) (hb.fit (by omega)) f]
    rfl
  | n + 1, _, .sub (a := a) (b := b) ha hb, hn, k + 1, hk => by
    have f := (TOk.sub ha hb).fit hn
    unfold r_L_rig m_L_rig
    simp only [calmF_ap, le_line, lt_line, var_ap, c_ap, op_ap, un_ap, b_ap, and_ap, or_ap, not_ap, if_ap, andV_ap, orV_ap, ch_ap, nil_ap, cons_ap, star_ap, tup_ap, lst_ap, arm_ap, cb_ap, noPart_ap, part_ap, sl_ap, slL_ap, call_ap, callL_ap, mk_ap, fld_ap, prop_ap, meth_ap, callI_ap, get2_ap, dnew_ap, it_ap, itA_ap, yes_ap, next_ap, seq_ap, set_ap, setO_ap, drop_ap, ret_ap, retN_ap, brk_ap, cnt_ap, never_ap, ifS_ap, aug_ap, app_ap, ext_ap, pop_ap, par_ap, asg_ap, dset_ap, stF_ap, fldL_ap, see_f, see_g, okM_f, okM_g, okR_f, okR_g, okO_f, okO_g, hide_nil, hide_cons, setAll_cons, setAll_nil, wipe_nil, wipe_cons, runB_ap, runL_ap, startL_ap, startD_ap, out1_nx, out1_rt, dName_ap, dGTup_ap, dGLst_ap, dGCons_ap, dGNil_ap, dAdd_ap, dSub_ap, dMul_ap, dFdiv_ap, dMod_ap, dLt_ap, dLe_ap, dGt_ap, dGe_ap, bOf_ap, dNeg_ap, dNot_ap, eqS_int, eqS_bl, eqS_str, dInt1_ap, dInt1_bl, dMax2_ap, dMin2_ap, dAbs_ap, dSum_ap, dAny_ap, dAll_ap, dLen_l, dLen_t, dLen_a, dIx_l, dIx_t, dIx_a, dTup_ap, dLst_ap, dArm_ap, dList_l, dList_t, dTupl_ap, dTupA_ap, lstOf_ap, tupOf_t, tupOf_a, itemsOf_t, itemsOf_l, dSl_l, dSl_t, dSlL_ap, dCatL_ap, dIsN_ap, rng1_ap, rng2_ap, dRange_1, dRange_2, dRange3_ap, ownB_ap, ownT_ap, ownN_ap, eqI_ap, isC_y, il_int, il_bl, il_str, il_non, il_tup, il_lst, il_armD, il_ins, il_dic, il_ar, il_rig, Bool.false_eq_true, if_false, if_true, Res.bind_ok, Res.bind_bad, Res.out_ok, Res.out_bad, Res.calm_ok, List.map_cons, List.map_nil, List.length_cons, List.length_nil, Nat.reduceAdd, Nat.reduceSub, List.replicate, List.cons_append, List.nil_append, List.getElem?_cons_zero, List.getElem?_cons_succ, List.set_cons_succ, List.set_cons_zero, Bool.true_and, Bool.and_true, Bool.not_false, Bool.not_true, List.contains_nil, Option.bind_some, for_ap, lc_ap, Nat.reduceEqDiff, Nat.reduceLeDiff, Bool.false_xor, Bool.true_xor, and_self, decide_true, decide_false, List.lookup, List.all_cons, List.all_nil, List.contains_cons, Nat.reduceBEq, Bool.or_false, Bool.false_or, Bool.or_true, Bool.true_or, beq_self_eq_true, List.contains_nil, trD, at0, at1, at2, w00, w01, w02, w03, w04, w05, w10, w11, w12, w13, w14, w15, w20, w21, w22, w23, w24, w25, w30, w31, w32, w33, w34, w35, w40, w41, w42, w43, w44, w45, w50, w51, w52, w53, w54, w55, il_tr, e_rig ha (by omega) k (by omega), e_rig hb (by omega) k (by omega)]
    rw [show rigD a.ar = .ins "Rig" [("told", arD a.ar)] from rfl, show rigD b.ar = .ins "Rig" [("told", arD b.ar)] from rfl]
    simp only [calmF_ap, le_line, lt_line, var_ap, c_ap, op_ap, un_ap, b_ap, and_ap, or_ap, not_ap, if_ap, andV_ap, orV_ap, ch_ap, nil_ap, cons_ap, star_ap, tup_ap, lst_ap, arm_ap, cb_ap, noPart_ap, part_ap, sl_ap, slL_ap, call_ap, callL_ap, mk_ap, fld_ap, prop_ap, meth_ap, callI_ap, get2_ap, dnew_ap, it_ap, itA_ap, yes_ap, next_ap, seq_ap, set_ap, setO_ap, drop_ap, ret_ap, retN_ap, brk_ap, cnt_ap, never_ap, ifS_ap, aug_ap, app_ap, ext_ap, pop_ap, par_ap, asg_ap, dset_ap, stF_ap, fldL_ap, see_f, see_g, okM_f, okM_g, okR_f, okR_g, okO_f, okO_g, hide_nil, hide_cons, setAll_cons, setAll_nil, wipe_nil, wipe_cons, runB_ap, runL_ap, startL_ap, startD_ap, out1_nx, out1_rt, dName_ap, dGTup_ap, dGLst_ap, dGCons_ap, dGNil_ap, dAdd_ap, dSub_ap, dMul_ap, dFdiv_ap, dMod_ap, dLt_ap, dLe_ap, dGt_ap, dGe_ap, bOf_ap, dNeg_ap, dNot_ap, eqS_int, eqS_bl, eqS_str, dInt1_ap, dInt1_bl, dMax2_ap, dMin2_ap, dAbs_ap, dSum_ap, dAny_ap, dAll_ap, dLen_l, dLen_t, dLen_a, dIx_l, dIx_t, dIx_a, dTup_ap, dLst_ap, dArm_ap, dList_l, dList_t, dTupl_ap, dTupA_ap, lstOf_ap, tupOf_t, tupOf_a, itemsOf_t, itemsOf_l, dSl_l, dSl_t, dSlL_ap, dCatL_ap, dIsN_ap, rng1_ap, rng2_ap, dRange_1, dRange_2, dRange3_ap, ownB_ap, ownT_ap, ownN_ap, eqI_ap, isC_y, il_int, il_bl, il_str, il_non, il_tup, il_lst, il_armD, il_ins, il_dic, il_ar, il_rig, Bool.false_eq_true, if_false, if_true, Res.bind_ok, Res.bind_bad, Res.out_ok, Res.out_bad, Res.calm_ok, List.map_cons, List.map_nil, List.length_cons, List.length_nil, Nat.reduceAdd, Nat.reduceSub, List.replicate, List.cons_append, List.nil_append, List.getElem?_cons_zero, List.getElem?_cons_succ, List.set_cons_succ, List.set_cons_zero, Bool.true_and, Bool.and_true, Bool.not_false, Bool.not_true, List.contains_nil, Option.bind_some, for_ap, lc_ap, Nat.reduceEqDiff, Nat.reduceLeDiff, Bool.false_xor, Bool.true_xor, and_self, decide_true, decide_false, List.lookup, List.all_cons, List.all_nil, List.contains_cons, Nat.reduceBEq, Bool.or_false, Bool.false_or, Bool.or_true, Bool.true_or, beq_self_eq_true, List.contains_nil]
    rw [← show rigD a.ar = .ins "Rig" [("told", arD a.ar)] from rfl, ← show rigD b.ar = .ins "Rig" [("told", arD b.ar)] from rfl, e_rig_sub (ha.fit (by omega)) (hb.fit (by omega)) f]
    rfl
  | n + 1, _, .chn (a := a) (b := b) ha hb hr, hn, k + 1, hk => by
    have f := (TOk.chn ha hb hr).fit hn
    unfold r_L_rig m_L_rig
    simp only [calmF_ap, le_line, lt_line, var_ap, c_ap, op_ap, un_ap, b_ap, and_ap, or_ap, not_ap, if_ap, andV_ap, orV_ap, ch_ap, nil_ap, cons_ap, star_ap, tup_ap, lst_ap, arm_ap, cb_ap, noPart_ap, part_ap, sl_ap, slL_ap, call_ap, callL_ap, mk_ap, fld_ap, prop_ap, meth_ap, callI_ap, get2_ap, dnew_ap, it_ap, itA_ap, yes_ap, next_ap, seq_ap, set_ap, setO_ap, drop_ap, ret_ap, retN_ap, brk_ap, cnt_ap, never_ap, ifS_ap, aug_ap, app_ap, ext_ap, pop_ap, par_ap, asg_ap, dset_ap, stF_ap, fldL_ap, see_f, see_g, okM_f, okM_g, okR_f, okR_g, okO_f, okO_g, hide_nil, hide_cons, setAll_cons, setAll_nil, wipe_nil, wipe_cons, runB_ap, runL_ap, startL_ap, startD_ap, out1_nx, out1_rt, dName_ap, dGTup_ap, dGLst_ap, dGCons_ap, dGNil_ap, dAdd_ap, dSub_ap, dMul_ap, dFdiv_ap, dMod_ap, dLt_ap, dLe_ap, dGt_ap, dGe_ap, bOf_ap, dNeg_ap, dNot_ap, eqS_int, eqS_bl, eqS_str, dInt1_ap, dInt1_bl, dMax2_ap, dMin2_ap, dAbs_ap, dSum_ap, dAny_ap, dAll_ap, dLen_l, dLen_t, dLen_a, dIx_l, dIx_t, dIx_a, dTup_ap, dLst_ap, dArm_ap, dList_l, dList_t, dTupl_ap, dTupA_ap, lstOf_ap, tupOf_t, tupOf_a, itemsOf_t, itemsOf_l, dSl_l, dSl_t, dSlL_ap, dCatL_ap, dIsN_ap, rng1_ap, rng2_ap, dRange_1, dRange_2, dRange3_ap, ownB_ap, ownT_ap, ownN_ap, eqI_ap, isC_y, il_int, il_bl, il_str, il_non, il_tup, il_lst, il_armD, il_ins, il_dic, il_ar, il_rig, Bool.false_eq_true, if_false, if_true, Res.bind_ok, Res.bind_bad, Res.out_ok, Res.out_bad, Res.calm_ok, List.map_cons, List.map_nil, List.length_cons, List.length_nil, Nat.reduceAdd, Nat.reduceSub, List.replicate, List.cons_append, List.nil_append, List.getElem?_cons_zero, List.getElem?_cons_succ, List.set_cons_succ, List.set_cons_zero, Bool.true_and, Bool.and_true, Bool.not_false, Bool.not_true, List.contains_nil, Option.bind_some, for_ap, lc_ap, Nat.reduceEqDiff, Nat.reduceLeDiff, Bool.false_xor, Bool.true_xor, and_self, decide_true, decide_false, List.lookup, List.all_cons, List.all_nil, List.contains_cons, Nat.reduceBEq, Bool.or_false, Bool.false_or, Bool.or_true, Bool.true_or, beq_self_eq_true, List.contains_nil, trD, at0, at1, at2, w00, w01, w02, w03, w04, w05, w10, w11, w12, w13, w14, w15, w20, w21, w22, w23, w24, w25, w30, w31, w32, w33, w34, w35, w40, w41, w42, w43, w44, w45, w50, w51, w52, w53, w54, w55, il_tr, e_rig ha (by omega) k (by omega), e_rig hb (by omega) k (by omega)]
    rw [show rigD a.ar = .ins "Rig" [("told", arD a.ar)] from rfl, show rigD b.ar = .ins "Rig" [("told", arD b.ar)] from rfl]
    simp only [calmF_ap, le_line, lt_line, var_ap, c_ap, op_ap, un_ap, b_ap, and_ap, or_ap, not_ap, if_ap, andV_ap, orV_ap, ch_ap, nil_ap, cons_ap, star_ap, tup_ap, lst_ap, arm_ap, cb_ap, noPart_ap, part_ap, sl_ap, slL_ap, call_ap, callL_ap, mk_ap, fld_ap, prop_ap, meth_ap, callI_ap, get2_ap, dnew_ap, it_ap, itA_ap, yes_ap, next_ap, seq_ap, set_ap, setO_ap, drop_ap, ret_ap, retN_ap, brk_ap, cnt_ap, never_ap, ifS_ap, aug_ap, app_ap, ext_ap, pop_ap, par_ap, asg_ap, dset_ap, stF_ap, fldL_ap, see_f, see_g, okM_f, okM_g, okR_f, okR_g, okO_f, okO_g, hide_nil, hide_cons, setAll_cons, setAll_nil, wipe_nil, wipe_cons, runB_ap, runL_ap, startL_ap, startD_ap, out1_nx, out1_rt, dName_ap, dGTup_ap, dGLst_ap, dGCons_ap, dGNil_ap, dAdd_ap, dSub_ap, dMul_ap, dFdiv_ap, dMod_ap, dLt_ap, dLe_ap, dGt_ap, dGe_ap, bOf_ap, dNeg_ap, dNot_ap, eqS_int, eqS_bl, eqS_str, dInt1_ap, dInt1_bl, dMax2_ap, dMin2_ap, dAbs_ap, dSum_ap, dAny_ap, dAll_ap, dLen_l, dLen_t, dLen_a, dIx_l, dIx_t, dIx_a, dTup_ap, dLst_ap, dArm_ap, dList_l, dList_t, dTupl_ap, dTupA_ap, lstOf_ap, tupOf_t, tupOf_a, itemsOf_t, itemsOf_l, dSl_l, dSl_t, dSlL_ap, dCatL_ap, dIsN_ap, rng1_ap, rng2_ap, dRange_1, dRange_2, dRange3_ap, ownB_ap, ownT_ap, ownN_ap, eqI_ap, isC_y, il_int, il_bl, il_str, il_non, il_tup, il_lst, il_armD, il_ins, il_dic, il_ar, il_rig, Bool.false_eq_true, if_false, if_true, Res.bind_ok, Res.bind_bad, Res.out_ok, Res.out_bad, Res.calm_ok, List.map_cons, List.map_nil, List.length_cons, List.length_nil, Nat.reduceAdd, Nat.reduceSub, List.replicate, List.cons_append, List.nil_append, List.getElem?_cons_zero, List.getElem?_cons_succ, List.set_cons_succ, List.set_cons_zero, Bool.true_and, Bool.and_true, Bool.not_false, Bool.not_true, List.contains_nil, Option.bind_some, for_ap, lc_ap, Nat.reduceEqDiff, Nat.reduceLeDiff, Bool.false_xor, Bool.true_xor, and_self, decide_true, decide_false, List.lookup, List.all_cons, List.all_nil, List.contains_cons, Nat.reduceBEq, Bool.or_false, Bool.false_or, Bool.or_true, Bool.true_or, beq_self_eq_true, List.contains_nil]
    rw [← show rigD a.ar = .ins "Rig" [("told", arD a.ar)] from rfl, ← show rigD b.ar = .ins "Rig" [("told", arD b.ar)] from rfl, e_rig_rshift (ha.fit (by omega)) (hb.fit (by omega)) hr f]
    rfl
theorem e_L_rig {n : Nat} {t : Tr} {R : Rs} (h : TOk n t) (hn : n ≤ 3) : f_L_rig [trD t] R = .ok (rigD t.ar) R := by
  unfold f_L_rig
  exact pureF_ok (e_rig h hn 6 (by omega))
theorem e_tot : ∀ {n : Nat} {t : Tr}, TOk n t → ∀ k, n < k → r_L_total k [trD t] [] = .ok (.int t.tot) []
  | n, _, .rod h0 h6, k + 1, hk => by
    unfold r_L_total m_L_total
    simp only [calmF_ap, le_line, lt_line, var_ap, c_ap, op_ap, un_ap, b_ap, and_ap, or_ap, not_ap, if_ap, andV_ap, orV_ap, ch_ap, nil_ap, cons_ap, star_ap, tup_ap, lst_ap, arm_ap, cb_ap, noPart_ap, part_ap, sl_ap, slL_ap, call_ap, callL_ap, mk_ap, fld_ap, prop_ap, meth_ap, callI_ap, get2_ap, dnew_ap, it_ap, itA_ap, yes_ap, next_ap, seq_ap, set_ap, setO_ap, drop_ap, ret_ap, retN_ap, brk_ap, cnt_ap, never_ap, ifS_ap, aug_ap, app_ap, ext_ap, pop_ap, par_ap, asg_ap, dset_ap, stF_ap, fldL_ap, see_f, see_g, okM_f, okM_g, okR_f, okR_g, okO_f, okO_g, hide_nil, hide_cons, setAll_cons, setAll_nil, wipe_nil, wipe_cons, runB_ap, runL_ap, startL_ap, startD_ap, out1_nx, out1_rt, dName_ap, dGTup_ap, dGLst_ap, dGCons_ap, dGNil_ap, dAdd_ap, dSub_ap, dMul_ap, dFdiv_ap, dMod_ap, dLt_ap, dLe_ap, dGt_ap, dGe_ap, bOf_ap, dNeg_ap, dNot_ap, eqS_int, eqS_bl, eqS_str, dInt1_ap, dInt1_bl, dMax2_ap, dMin2_ap, dAbs_ap, dSum_ap, dAny_ap, dAll_ap, dLen_l, dLen_t, dLen_a, dIx_l, dIx_t, dIx_a, dTup_ap, dLst_ap, dArm_ap, dList_l, dList_t, dTupl_ap, dTupA_ap, lstOf_ap, tupOf_t, tupOf_a, itemsOf_t, itemsOf_l, dSl_l, dSl_t, dSlL_ap, dCatL_ap, dIsN_ap, rng1_ap, rng2_ap, dRange_1, dRange_2, dRange3_ap, ownB_ap, ownT_ap, ownN_ap, eqI_ap, isC_y, il_int, il_bl, il_str, il_non, il_tup, il_lst, il_armD, il_ins, il_dic, il_ar, il_rig, Bool.false_eq_true, if_false, if_true, Res.bind_ok, Res.bind_bad, Res.out_ok, Res.out_bad, Res.calm_ok, List.map_cons, List.map_nil, List.length_cons, List.length_nil, Nat.reduceAdd, Nat.reduceSub, List.replicate, List.cons_append, List.nil_append, List.getElem?_cons_zero, List.getElem?_cons_succ, List.set_cons_succ, List.set_cons_zero, Bool.true_and, Bool.and_true, Bool.not_false, Bool.not_true, List.contains_nil, Option.bind_some, for_ap, lc_ap, Nat.reduceEqDiff, Nat.reduceLeDiff, Bool.false_xor, Bool.true_xor, and_self, decide_true, decide_false, List.lookup, List.all_cons, List.all_nil, List.contains_cons, Nat.reduceBEq, Bool.or_false, Bool.false_or, Bool.or_true, Bool.true_or, beq_self_eq_true, List.contains_nil, trD, at0, at1, w00, w01, w02, w03, w04, w05, w10, w11, w12, w13, w14, w15, w20, w21, w22, w23, w24, w25, w30, w31, w32, w33, w34, w35, w40, w41, w42, w43, w44, w45, w50, w51, w52, w53, w54, w55, il_tr, Tr.tot]
  | n + 1, _, .mul ht h1 h2, k + 1, hk => by
    unfold r_L_total m_L_total
    simp only [calmF_ap, le_line, lt_line, var_ap, c_ap, op_ap, un_ap, b_ap, and_ap, or_ap, not_ap, if_ap, andV_ap, orV_ap, ch_ap, nil_ap, cons_ap, star_ap, tup_ap, lst_ap, arm_ap, cb_ap, noPart_ap, part_ap, sl_ap, slL_ap, call_ap, callL_ap, mk_ap, fld_ap, prop_ap, meth_ap, callI_ap, get2_ap, dnew_ap, it_ap, itA_ap, yes_ap, next_ap, seq_ap, set_ap, setO_ap, drop_ap, ret_ap, retN_ap, brk_ap, cnt_ap, never_ap, ifS_ap, aug_ap, app_ap, ext_ap, pop_ap, par_ap, asg_ap, dset_ap, stF_ap, fldL_ap, see_f, see_g, okM_f, okM_g, okR_f, okR_g, okO_f, okO_g, hide_nil, hide_cons, setAll_cons, setAll_nil, wipe_nil, wipe_cons, runB_ap, runL_ap, startL_ap, startD_ap, out1_nx, out1_rt, dName_ap, dGTup_ap, dGLst_ap, dGCons_ap, dGNil_ap, dAdd_ap, dSub_ap, dMul_ap, dFdiv_ap, dMod_ap, dLt_ap, dLe_ap, dGt_ap, dGe_ap, bOf_ap, dNeg_ap, dNot_ap, eqS_int, eqS_bl, eqS_str, dInt1_ap, dInt1_bl, dMax2_ap, dMin2_ap, dAbs_ap, dSum_ap, dAny_ap, dAll_ap, dLen_l, dLen_t, dLen_a, dIx_l, dIx_t, dIx_a, dTup_ap, dLst_ap, dArm_ap, dList_l, dList_t, dTupl_ap, dTupA_ap, lstOf_ap, tupOf_t, tupOf_a, itemsOf_t, itemsOf_l, dSl_l, dSl_t, dSlL_ap, dCatL_ap, dIsN_ap, rng1_ap, rng2_ap, dRange_1, dRange_2, dRange3_ap, ownB_ap, ownT_ap, ownN_ap, eqI_ap, isC_y, il_int, il_bl, il_str, il_non, il_tup, il_lst, il_armD, il_ins, il_dic, il_ar, il_rig, Bool.false_eq_true, if_false, if_true, Res.bind_ok, Res.bind_bad, Res.out_ok, Res.out_bad, Res.calm_ok, List.map_cons, List.map_nil, List.length_cons, List.length_nil, Nat.reduceAdd, Nat.reduceSub, List.replicate, List.cons_append, List.nil_append, List.getElem?_cons_zero, List.getElem?_cons_succ, List.set_cons_succ, List.set_cons_zero, Bool.true_and, Bool.and_true, Bool.not_false, Bool.not_true, List.contains_nil, Option.bind_some, for_ap, lc_ap, Nat.reduceEqDiff, Nat.reduceLeDiff, Bool.false_xor, Bool.true_xor, and_self, decide_true, decide_false, List.lookup, List.all_cons, List.all_nil, List.contains_cons, Nat.reduceBEq, Bool.or_false, Bool.false_or, Bool.or_true, Bool.true_or, beq_self_eq_true, List.contains_nil, trD, at0, at1, w00, w01, w02, w03, w04, w05, w10, w11, w12, w13, w14, w15, w20, w21, w22, w23, w24, w25, w30, w31, w32, w33, w34, w35, w40, w41, w42, w43, w44, w45, w50, w51, w52, w53, w54, w55, il_tr, Tr.tot, e_tot ht k (by omega)]
  | n + 1, _, .neg ht, k + 1, hk => by
    unfold r_L_total m_L_total
    simp only [calmF_ap, le_line, lt_line, var_ap, c_ap, op_ap, un_ap, b_ap, and_ap, or_ap, not_ap, if_ap, andV_ap, orV_ap, ch_ap, nil_ap, cons_ap, star_ap, tup_ap, lst_ap, arm_ap, cb_ap, noPart_ap, part_ap, sl_ap, slL_ap, call_ap, callL_ap, mk_ap, fld_ap, prop_ap, meth_ap, callI_ap, get2_ap, dnew_ap, it_ap, itA_ap, yes_ap, next_ap, seq_ap, set_ap, setO_ap, drop_ap, ret_ap, retN_ap, brk_ap, cnt_ap, never_ap, ifS_ap, aug_ap, app_ap, ext_ap, pop_ap, par_ap, asg_ap, dset_ap, stF_ap, fldL_ap, see_f, see_g, okM_f, okM_g, okR_f, okR_g, okO_f, okO_g, hide_nil, hide_cons, setAll_cons, setAll_nil, wipe_nil, wipe_cons, runB_ap, runL_ap, startL_ap, startD_ap, out1_nx, out1_rt, dName_ap, dGTup_ap, dGLst_ap, dGCons_ap, dGNil_ap, dAdd_ap, dSub_ap, dMul_ap, dFdiv_ap, dMod_ap, dLt_ap, dLe_ap, dGt_ap, dGe_ap, bOf_ap, dNeg_ap, dNot_ap, eqS_int, eqS_bl, eqS_str, dInt1_ap, dInt1_bl, dMax2_ap, dMin2_ap, dAbs_ap, dSum_ap, dAny_ap, dAll_ap, dLen_l, dLen_t, dLen_a, dIx_l, dIx_t, dIx_a, dTup_ap, dLst_ap, dArm_ap, dList_l, dList_t, dTupl_ap, dTupA_ap, lstOf_ap, tupOf_t, tupOf_a, itemsOf_t, itemsOf_l, dSl_l, dSl_t, dSlL_ap, dCatL_ap, dIsN_ap, rng1_ap, rng2_ap, dRange_1, dRange_2, dRange3_ap, ownB_ap, ownT_ap, ownN_ap, eqI_ap, isC_y, il_int, il_bl, il_str, il_non, il_tup, il_lst, il_armD, il_ins, il_dic, il_ar, il_rig, Bool.false_eq_true, if_false, if_true, Res.bind_ok, Res.bind_bad, Res.out_ok, Res.out_bad, Res.calm_ok, List.map_cons, List.map_nil, List.length_cons, List.length_nil, Nat.reduceAdd, Nat.reduceSub, List.replicate, List.cons_append, List.nil_append, List.getElem?_cons_zero, List.getElem?_cons_succ, List.set_cons_succ, List.set_cons_zero, Bool.true_and, Bool.and_true, Bool.not_false, Bool.not_true, List.contains_nil, Option.bind_some, for_ap, lc_ap, Nat.reduceEqDiff, Nat.reduceLeDiff, Bool.false_xor, Bool.true_xor, and_self, decide_true, decide_false, List.lookup, List.all_cons, List.all_nil, List.contains_cons, Nat.reduceBEq, Bool.or_false, Bool.false_or, Bool.or_true, Bool.true_or, beq_self_eq_true, List.contains_nil, trD, at0, at1, w00, w01, w02, w03, w04, w05, w10, w11, w12, w13, w14, w15, w20, w21, w22, w23, w24, w25, w30, w31, w32, w33, w34, w35, w40, w41, w42, w43, w44, w45, w50, w51, w52, w53, w54, w55, il_tr, Tr.tot, e_tot ht k (by omega)]
  | n + 1, _, .add ha hb, k + 1, hk => by
    unfold r_L_total m_L_total
    simp only [calmF_ap, le_line, lt_line, var_ap, c_ap, op_ap, un_ap, b_ap, and_ap, or_ap, not_ap, if_ap, andV_ap, orV_ap, ch_ap, nil_ap, cons_ap, star_ap, tup_ap, lst_ap, arm_ap, cb_ap, noPart_ap, part_ap, sl_ap, slL_ap, call_ap, callL_ap, mk_ap, fld_ap, prop_ap, meth_ap, callI_ap, get2_ap, dnew_ap, it_ap, itA_ap, yes_ap, next_ap, seq_ap, set_ap, setO_ap, drop_ap, ret_ap, retN_ap, brk_ap, cnt_ap, never_ap, ifS_ap, aug_ap, app_ap, ext_ap, pop_ap, par_ap, asg_ap, dset_ap, stF_ap, fldL_ap, see_f, see_g, okM_f, okM_g, okR_f, okR_g, okO_f, okO_g, hide_nil, hide_cons, setAll_cons, setAll_nil, wipe_nil, wipe_cons, runB_ap, runL_ap, startL_ap, startD_ap, out1_nx, out1_rt, dName_ap, dGTup_ap, dGLst_ap, dGCons_ap, dGNil_ap, dAdd_ap, dSub_ap, dMul_ap, dFdiv_ap, dMod_ap, dLt_ap, dLe_ap, dGt_ap, dGe_ap, bOf_ap, dNeg_ap, dNot_ap, eqS_int, eqS_bl, eqS_str, dInt1_ap, dInt1_bl, dMax2_ap, dMin2_ap, dAbs_ap, dSum_ap, dAny_ap, dAll_ap, dLen_l, dLen_t, dLen_a, dIx_l, dIx_t, dIx_a, dTup_ap, dLst_ap, dArm_ap, dList_l, dList_t, dTupl_ap, dTupA_ap, lstOf_ap, tupOf_t, tupOf_a, itemsOf_t, itemsOf_l, dSl_l, dSl_t, dSlL_ap, dCatL_ap, dIsN_ap, rng1_ap, rng2_ap, dRange_1, dRange_2, dRange3_ap, ownB_ap, ownT_ap, ownN_ap, eqI_ap, isC_y, il_int, il_bl, il_str, il_non, il_tup, il_lst, il_armD, il_ins, il_dic, il_ar, il_rig, Bool.false_eq_true, if_false, if_true, Res.bind_ok, Res.bind_bad, Res.out_ok, Res.out_bad, Res.calm_ok, List.map_cons, List.map_nil, List.length_cons, List.length_nil, Nat.reduceAdd, Nat.reduceSub, List.replicate, List.cons_append, List.nil_append, List.getElem?_cons_zero, List.getElem?_cons_succ, List.set_cons_succ, List.set_cons_zero, Bool.true_and, Bool.and_true, Bool.not_false, Bool.not_true, List.contains_nil, Option.bind_some, for_ap, lc_ap, Nat.reduceEqDiff, Nat.reduceLeDiff, Bool.false_xor, Bool.true_xor, and_self, decide_true, decide_false, List.lookup, List.all_cons, List.all_nil, List.contains_cons, Nat.reduceBEq, Bool.or_false, Bool.false_or, Bool.or_true, Bool.true_or, beq_self_eq_true, List.contains_nil, trD, at0, at1, at2, w00, w01, w02, w03, w04, w05, w10, w11, w12, w13, w14, w15, w20, w21, w22, w23, w24, w25, w30, w31, w32, w33, w34, w35, w40, w41, w42, w43, w44, w45, w50, w51, w52, w53, w54, w55, il_tr, Tr.tot, e_tot ha k (by omega), e_tot hb k (by omega)]
  | n + 1, _, .sub ha hb, k + 1, hk => by
    unfold r_L_total m_L_total
    simp only [calmF_ap, le_line, lt_line, var_ap, c_ap, op_ap, un_ap, b_ap, and_ap, or_ap, not_ap, if_ap, andV_ap, orV_ap, ch_ap, nil_ap, cons_ap, star_ap, tup_ap, lst_ap, arm_ap, cb_ap, noPart_ap, part_ap, sl_ap, slL_ap, call_ap, callL_ap, mk_ap, fld_ap, prop_ap, meth_ap, callI_ap, get2_ap, dnew_ap, it_ap, itA_ap, yes_ap, next_ap, seq_ap, set_ap, setO_ap, drop_ap, ret_ap, retN_ap, brk_ap, cnt_ap, never_ap, ifS_ap, aug_ap, app_ap, ext_ap, pop_ap, par_ap, asg_ap, dset_ap, stF_ap, fldL_ap, see_f, see_g, okM_f, okM_g, okR_f, okR_g, okO_f, okO_g, hide_nil, hide_cons, setAll_cons, setAll_nil, wipe_nil, wipe_cons, runB_ap, runL_ap, startL_ap, startD_ap, out1_nx, out1_rt, dName_ap, dGTup_ap, dGLst_ap, dGCons_ap, dGNil_ap, dAdd_ap, dSub_ap, dMul_ap, dFdiv_ap, dMod_ap, dLt_ap, dLe_ap, dGt_ap, dGe_ap, bOf_ap, dNeg_ap, dNot_ap, eqS_int, eqS_bl, eqS_str, dInt1_ap, dInt1_bl, dMax2_ap, dMin2_ap, dAbs_ap, dSum_ap, dAny_ap, dAll_ap, dLen_l, dLen_t, dLen_a, dIx_l, dIx_t, dIx_a, dTup_ap, dLst_ap, dArm_ap, dList_l, dList_t, dTupl_ap, dTupA_ap, lstOf_ap, tupOf_t, tupOf_a, itemsOf_t, itemsOf_l, dSl_l, dSl_t, dSlL_ap, dCatL_ap, dIsN_ap, rng1_ap, rng2_ap, dRange_1, dRange_2, dRange3_ap, ownB_ap, ownT_ap, ownN_ap, eqI_ap, isC_y, il_int, il_bl, il_str, il_non, il_tup, il_lst, il_armD, il_ins, il_dic, il_ar, il_rig, Bool.false_eq_true, if_false, if_true, Res.bind_ok, Res.bind_bad, Res.out_ok, Res.out_bad, Res.calm_ok, List.map_cons, List.map_nil, List.length_cons, List.length_nil, Nat.reduceAdd, Nat.reduceSub, List.replicate, List.cons_append, List.nil_append, List.getElem?_cons_zero, List.getElem?_cons_succ, List.set_cons_succ, List.set_cons_zero, Bool.true_and, Bool.and_true, Bool.not_false, Bool.not_true, List.contains_nil, Option.bind_some, for_ap, lc_ap, Nat.reduceEqDiff, Nat.reduceLeDiff, Bool.false_xor, Bool.true_xor, and_self, decide_true, decide_false, List.lookup, List.all_cons, List.all_nil, List.contains_cons, Nat.reduceBEq, Bool.or_false, Bool.false_or, Bool.or_true, Bool.true_or, beq_self_eq_true, List.contains_nil, trD, at0, at1, at2, w00, w01, w02, w03, w04, w05, w10, w11, w12, w13, w14, w15, w20, w21, w22, w23, w24, w25, w30, w31, w32, w33, w34, w35, w40, w41, w42, w43, w44, w45, w50, w51, w52, w53, w54, w55, il_tr, Tr.tot, e_tot ha k (by omega), e_tot hb k (by omega)]
  | n + 1, _, .chn ha hb hr, k + 1, hk => by
    unfold r_L_total m_L_total
    simp only [calmF_ap, le_line, lt_line, var_ap, c_ap, op_ap, un_ap, b_ap, and_ap, or_ap, not_ap, if_ap, andV_ap, orV_ap, ch_ap, nil_ap, cons_ap, star_ap, tup_ap, lst_ap, arm_ap, cb_ap, noPart_ap, part_ap, sl_ap, slL_ap, call_ap, callL_ap, mk_ap, fld_ap, prop_ap, meth_ap, callI_ap, get2_ap, dnew_ap, it_ap, itA_ap, yes_ap, next_ap, seq_ap, set_ap, setO_ap, drop_ap, ret_ap, retN_ap, brk_ap, cnt_ap, never_ap, ifS_ap, aug_ap, app_ap, ext_ap, pop_ap, par_ap, asg_ap, dset_ap, stF_ap, fldL_ap, see_f, see_g, okM_f, okM_g, okR_f, okR_g, okO_f, okO_g, hide_nil, hide_cons, setAll_cons, setAll_nil, wipe_nil, wipe_cons, runB_ap, runL_ap, startL_ap, startD_ap, out1_nx, out1_rt, dName_ap, dGTup_ap, dGLst_ap, dGCons_ap, dGNil_ap, dAdd_ap, dSub_ap, dMul_ap, dFdiv_ap, dMod_ap, dLt_ap, dLe_ap, dGt_ap, dGe_ap, bOf_ap, dNeg_ap, dNot_ap, eqS_int, eqS_bl, eqS_str, dInt1_ap, dInt1_bl, dMax2_ap, dMin2_ap, dAbs_ap, dSum_ap, dAny_ap, dAll_ap, dLen_l, dLen_t, dLen_a, dIx_l, dIx_t, dIx_a, dTup_ap, dLst_ap, dArm_ap, dList_l, dList_t, dTupl_ap, dTupA_ap, lstOf_ap, tupOf_t, tupOf_a, itemsOf_t, itemsOf_l, dSl_l, dSl_t, dSlL_ap, dCatL_ap, dIsN_ap, rng1_ap, rng2_ap, dRange_1, dRange_2, dRange3_ap, ownB_ap, ownT_ap, ownN_ap, eqI_ap, isC_y, il_int, il_bl, il_str, il_non, il_tup, il_lst, il_armD, il_ins, il_dic, il_ar, il_rig, Bool.false_eq_true, if_false, if_true, Res.bind_ok, Res.bind_bad, Res.out_ok, Res.out_bad, Res.calm_ok, List.map_cons, List.map_nil, List.length_cons, List.length_nil, Nat.reduceAdd, Nat.reduceSub, List.replicate, List.cons_append, List.nil_append, List.getElem?_cons_zero, List.getElem?_cons_succ, List.set_cons_succ, List.set_cons_zero, Bool.true_and, Bool.and_true, Bool.not_false, Bool.not_true, List.contains_nil, Option.bind_some, for_ap, lc_ap, Nat.reduceEqDiff, Nat.reduceLeDiff, Bool.false_xor, Bool.true_xor, and_self, decide_true, decide_false, List.lookup, List.all_cons, List.all_nil, List.contains_cons, Nat.reduceBEq, Bool.or_false, Bool.false_or, Bool.or_true, Bool.true_or, beq_self_eq_true, List.contains_nil, trD, at0, at1, at2, w00, w01, w02, w03, w04, w05, w10, w11, w12, w13, w14, w15, w20, w21, w22, w23, w24, w25, w30, w31, w32, w33, w34, w35, w40, w41, w42, w43, w44, w45, w50, w51, w52, w53, w54, w55, il_tr, Tr.tot, e_tot ha k (by omega), e_tot hb k (by omega)]
/-! ### stepping upwards from rest -/
def stD : Tr → Int → D
  | .rod s, x => .int (pos (x - s))
  | .mul t _, x => stD t x
  | .neg t, x => stD t x
  | .add a b, x => .tup [stD a x, stD b x]
  | .sub a b, x => .tup [stD a x, stD b x]
  | .chn a b, x => .tup [stD a x, .int (cv a.ar x), stD b (cv a.ar x)]
theorem il_st : ∀ (t : Tr) (x : Int), (stD t x).isLoc = false
  | .rod _, _ => rfl
  | .mul t _, x => il_st t x
  | .neg t, x => il_st t x
  | .add _ _, _ => rfl
  | .sub _ _, _ => rfl
  | .chn _ _, _ => rfl
def upL (o : Int) (n : Nat) : List D := (List.range n).map fun k : Nat => .int (o + 1 + (k : Int))
theorem e_steps_up {o n : Int} {R : Rs} (h0 : 0 ≤ o) (h : o ≤ n) (hn : n ≤ 16000000) : f_L_steps [.int o, .int n] R = .ok (.lst (upL o (n - o).toNat)) R := by
  unfold f_L_steps
  refine pureF_ok ?_
  unfold m_L_steps
  by_cases h1 : o < n
  · have hB : rgOkB (o + 1) (n + 1) = true := by simp [rgOkB]; omega
    simp only [calmF_ap, le_line, lt_line, var_ap, c_ap, op_ap, un_ap, b_ap, and_ap, or_ap, not_ap, if_ap, andV_ap, orV_ap, ch_ap, nil_ap, cons_ap, star_ap, tup_ap, lst_ap, arm_ap, cb_ap, noPart_ap, part_ap, sl_ap, slL_ap, call_ap, callL_ap, mk_ap, fld_ap, prop_ap, meth_ap, callI_ap, get2_ap, dnew_ap, it_ap, itA_ap, yes_ap, next_ap, seq_ap, set_ap, setO_ap, drop_ap, ret_ap, retN_ap, brk_ap, cnt_ap, never_ap, ifS_ap, aug_ap, app_ap, ext_ap, pop_ap, par_ap, asg_ap, dset_ap, stF_ap, fldL_ap, see_f, see_g, okM_f, okM_g, okR_f, okR_g, okO_f, okO_g, hide_nil, hide_cons, setAll_cons, setAll_nil, wipe_nil, wipe_cons, runB_ap, runL_ap, startL_ap, startD_ap, out1_nx, out1_rt, dName_ap, dGTup_ap, dGLst_ap, dGCons_ap, dGNil_ap, dAdd_ap, dSub_ap, dMul_ap, dFdiv_ap, dMod_ap, dLt_ap, dLe_ap, dGt_ap, dGe_ap, bOf_ap, dNeg_ap, dNot_ap, eqS_int, eqS_bl, eqS_str, dInt1_ap, dInt1_bl, dMax2_ap, dMin2_ap, dAbs_ap, dSum_ap, dAny_ap, dAll_ap, dLen_l, dLen_t, dLen_a, dIx_l, dIx_t, dIx_a, dTup_ap, dLst_ap, dArm_ap, dList_l, dList_t, dTupl_ap, dTupA_ap, lstOf_ap, tupOf_t, tupOf_a, itemsOf_t, itemsOf_l, dSl_l, dSl_t, dSlL_ap, dCatL_ap, dIsN_ap, rng1_ap, rng2_ap, dRange_1, dRange_2, dRange3_ap, ownB_ap, ownT_ap, ownN_ap, eqI_ap, isC_y, il_int, il_bl, il_str, il_non, il_tup, il_lst, il_armD, il_ins, il_dic, il_ar, il_rig, Bool.false_eq_true, if_false, if_true, Res.bind_ok, Res.bind_bad, Res.out_ok, Res.out_bad, Res.calm_ok, List.map_cons, List.map_nil, List.length_cons, List.length_nil, Nat.reduceAdd, Nat.reduceSub, List.replicate, List.cons_append, List.nil_append, List.getElem?_cons_zero, List.getElem?_cons_succ, List.set_cons_succ, List.set_cons_zero, Bool.true_and, Bool.and_true, Bool.not_false, Bool.not_true, List.contains_nil, Option.bind_some, for_ap, lc_ap, Nat.reduceEqDiff, Nat.reduceLeDiff, Bool.false_xor, Bool.true_xor, and_self, decide_true, decide_false, List.lookup, List.all_cons, List.all_nil, List.contains_cons, Nat.reduceBEq, Bool.or_false, Bool.false_or, Bool.or_true, Bool.true_or, beq_self_eq_true, List.contains_nil, h1, hB]
    rw [show n + 1 - (o + 1) = n - o by omega]
    rfl
  · have e : n = o := by omega
    subst e
    have hB : rgOkB (n - 1) (n - 1) = true := by simp [rgOkB]; omega
    have e2 : (0 : Int) - 1 = -1 := by decide
    simp only [calmF_ap, le_line, lt_line, var_ap, c_ap, op_ap, un_ap, b_ap, and_ap, or_ap, not_ap, if_ap, andV_ap, orV_ap, ch_ap, nil_ap, cons_ap, star_ap, tup_ap, lst_ap, arm_ap, cb_ap, noPart_ap, part_ap, sl_ap, slL_ap, call_ap, callL_ap, mk_ap, fld_ap, prop_ap, meth_ap, callI_ap, get2_ap, dnew_ap, it_ap, itA_ap, yes_ap, next_ap, seq_ap, set_ap, setO_ap, drop_ap, ret_ap, retN_ap, brk_ap, cnt_ap, never_ap, ifS_ap, aug_ap, app_ap, ext_ap, pop_ap, par_ap, asg_ap, dset_ap, stF_ap, fldL_ap, see_f, see_g, okM_f, okM_g, okR_f, okR_g, okO_f, okO_g, hide_nil, hide_cons, setAll_cons, setAll_nil, wipe_nil, wipe_cons, runB_ap, runL_ap, startL_ap, startD_ap, out1_nx, out1_rt, dName_ap, dGTup_ap, dGLst_ap, dGCons_ap, dGNil_ap, dAdd_ap, dSub_ap, dMul_ap, dFdiv_ap, dMod_ap, dLt_ap, dLe_ap, dGt_ap, dGe_ap, bOf_ap, dNeg_ap, dNot_ap, eqS_int, eqS_bl, eqS_str, dInt1_ap, dInt1_bl, dMax2_ap, dMin2_ap, dAbs_ap, dSum_ap, dAny_ap, dAll_ap, dLen_l, dLen_t, dLen_a, dIx_l, dIx_t, dIx_a, dTup_ap, dLst_ap, dArm_ap, dList_l, dList_t, dTupl_ap, dTupA_ap, lstOf_ap, tupOf_t, tupOf_a, itemsOf_t, itemsOf_l, dSl_l, dSl_t, dSlL_ap, dCatL_ap, dIsN_ap, rng1_ap, rng2_ap, dRange_1, dRange_2, dRange3_ap, ownB_ap, ownT_ap, ownN_ap, eqI_ap, isC_y, il_int, il_bl, il_str, il_non, il_tup, il_lst, il_armD, il_ins, il_dic, il_ar, il_rig, Bool.false_eq_true, if_false, if_true, Res.bind_ok, Res.bind_bad, Res.out_ok, Res.out_bad, Res.calm_ok, List.map_cons, List.map_nil, List.length_cons, List.length_nil, Nat.reduceAdd, Nat.reduceSub, List.replicate, List.cons_append, List.nil_append, List.getElem?_cons_zero, List.getElem?_cons_succ, List.set_cons_succ, List.set_cons_zero, Bool.true_and, Bool.and_true, Bool.not_false, Bool.not_true, List.contains_nil, Option.bind_some, for_ap, lc_ap, Nat.reduceEqDiff, Nat.reduceLeDiff, Bool.false_xor, Bool.true_xor, and_self, decide_true, decide_false, List.lookup, List.all_cons, List.all_nil, List.contains_cons, Nat.reduceBEq, Bool.or_false, Bool.false_or, Bool.or_true, Bool.true_or, beq_self_eq_true, List.contains_nil, h1, e2, hB]
    rw [show (n - 1 - (n - 1)).toNat = 0 by omega, show (n - n).toNat = 0 by omega]
    rfl
theorem e_rest : ∀ {n : Nat} {t : Tr}, TOk n t → n ≤ 3 → ∀ k, n < k → r_L_rest k [trD t] [] = .ok (stD t 0) []
  | n, _, .rod (s := s) h0 h6, hn, k + 1, hk => by
    unfold r_L_rest m_L_rest
    have : pos (0 - s) = 0 := pos_of_le (by omega)
    simp only [calmF_ap, le_line, lt_line, var_ap, c_ap, op_ap, un_ap, b_ap, and_ap, or_ap, not_ap, if_ap, andV_ap, orV_ap, ch_ap, nil_ap, cons_ap, star_ap, tup_ap, lst_ap, arm_ap, cb_ap, noPart_ap, part_ap, sl_ap, slL_ap, call_ap, callL_ap, mk_ap, fld_ap, prop_ap, meth_ap, callI_ap, get2_ap, dnew_ap, it_ap, itA_ap, yes_ap, next_ap, seq_ap, set_ap, setO_ap, drop_ap, ret_ap, retN_ap, brk_ap, cnt_ap, never_ap, ifS_ap, aug_ap, app_ap, ext_ap, pop_ap, par_ap, asg_ap, dset_ap, stF_ap, fldL_ap, see_f, see_g, okM_f, okM_g, okR_f, okR_g, okO_f, okO_g, hide_nil, hide_cons, setAll_cons, setAll_nil, wipe_nil, wipe_cons, runB_ap, runL_ap, startL_ap, startD_ap, out1_nx, out1_rt, dName_ap, dGTup_ap, dGLst_ap, dGCons_ap, dGNil_ap, dAdd_ap, dSub_ap, dMul_ap, dFdiv_ap, dMod_ap, dLt_ap, dLe_ap, dGt_ap, dGe_ap, bOf_ap, dNeg_ap, dNot_ap, eqS_int, eqS_bl, eqS_str, dInt1_ap, dInt1_bl, dMax2_ap, dMin2_ap, dAbs_ap, dSum_ap, dAny_ap, dAll_ap, dLen_l, dLen_t, dLen_a, dIx_l, dIx_t, dIx_a, dTup_ap, dLst_ap, dArm_ap, dList_l, dList_t, dTupl_ap, dTupA_ap, lstOf_ap, tupOf_t, tupOf_a, itemsOf_t, itemsOf_l, dSl_l, dSl_t, dSlL_ap, dCatL_ap, dIsN_ap, rng1_ap, rng2_ap, dRange_1, dRange_2, dRange3_ap, ownB_ap, ownT_ap, ownN_ap, eqI_ap, isC_y, il_int, il_bl, il_str, il_non, il_tup, il_lst, il_armD, il_ins, il_dic, il_ar, il_rig, Bool.false_eq_true, if_false, if_true, Res.bind_ok, Res.bind_bad, Res.out_ok, Res.out_bad, Res.calm_ok, List.map_cons, List.map_nil, List.length_cons, List.length_nil, Nat.reduceAdd, Nat.reduceSub, List.replicate, List.cons_append, List.nil_append, List.getElem?_cons_zero, List.getElem?_cons_succ, List.set_cons_succ, List.set_cons_zero, Bool.true_and, Bool.and_true, Bool.not_false, Bool.not_true, List.contains_nil, Option.bind_some, for_ap, lc_ap, Nat.reduceEqDiff, Nat.reduceLeDiff, Bool.false_xor, Bool.true_xor, and_self, decide_true, decide_false, List.lookup, List.all_cons, List.all_nil, List.contains_cons, Nat.reduceBEq, Bool.or_false, Bool.false_or, Bool.or_true, Bool.true_or, beq_self_eq_true, List.contains_nil, trD, at0, at1, w00, w01, w02, w03, w04, w05, w10, w11, w12, w13, w14, w15, w20, w21, w22, w23, w24, w25, w30, w31, w32, w33, w34, w35, w40, w41, w42, w43, w44, w45, w50, w51, w52, w53, w54, w55, il_tr, stD, this]
  | n + 1, _, .mul ht h1 h2, hn, k + 1, hk => by
    unfold r_L_rest m_L_rest
    simp only [calmF_ap, le_line, lt_line, var_ap, c_ap, op_ap, un_ap, b_ap, and_ap, or_ap, not_ap, if_ap, andV_ap, orV_ap, ch_ap, nil_ap, cons_ap, star_ap, tup_ap, lst_ap, arm_ap, cb_ap, noPart_ap, part_ap, sl_ap, slL_ap, call_ap, callL_ap, mk_ap, fld_ap, prop_ap, meth_ap, callI_ap, get2_ap, dnew_ap, it_ap, itA_ap, yes_ap, next_ap, seq_ap, set_ap, setO_ap, drop_ap, ret_ap, retN_ap, brk_ap, cnt_ap, never_ap, ifS_ap, aug_ap, app_ap, ext_ap, pop_ap, par_ap, asg_ap, dset_ap, stF_ap, fldL_ap, see_f, see_g, okM_f, okM_g, okR_f, okR_g, okO_f, okO_g, hide_nil, hide_cons, setAll_cons, setAll_nil, wipe_nil, wipe_cons, runB_ap, runL_ap, startL_ap, startD_ap, out1_nx, out1_rt, dName_ap, dGTup_ap, dGLst_ap, dGCons_ap, dGNil_ap, dAdd_ap, dSub_ap, dMul_ap, dFdiv_ap, dMod_ap, dLt_ap, dLe_ap, dGt_ap, dGe_ap, bOf_ap, dNeg_ap, dNot_ap, eqS_int, eqS_bl, eqS_str, dInt1_ap, dInt1_bl, dMax2_ap, dMin2_ap, dAbs_ap, dSum_ap, dAny_ap, dAll_ap, dLen_l, dLen_t, dLen_a, dIx_l, dIx_t, dIx_a, dTup_ap, dLst_ap, dArm_ap, dList_l, dList_t, dTupl_ap, dTupA_ap, lstOf_ap, tupOf_t, tupOf_a, itemsOf_t, itemsOf_l, dSl_l, dSl_t, dSlL_ap, dCatL_ap, dIsN_ap, rng1_ap, rng2_ap, dRange_1, dRange_2, dRange3_ap, ownB_ap, ownT_ap, ownN_ap, eqI_ap, isC_y, il_int, il_bl, il_str, il_non, il_tup, il_lst, il_armD, il_ins, il_dic, il_ar, il_rig, Bool.false_eq_true, if_false, if_true, Res.bind_ok, Res.bind_bad, Res.out_ok, Res.out_bad, Res.calm_ok, List.map_cons, List.map_nil, List.length_cons, List.length_nil, Nat.reduceAdd, Nat.reduceSub, List.replicate, List.cons_append, List.nil_append, List.getElem?_cons_zero, List.getElem?_cons_succ, List.set_cons_succ, List.set_cons_zero, Bool.true_and, Bool.and_true, Bool.not_false, Bool.not_true, List.contains_nil, Option.bind_some, for_ap, lc_ap, Nat.reduceEqDiff, Nat.reduceLeDiff, Bool.false_xor, Bool.true_xor, and_self, decide_true, decide_false, List.lookup, List.all_cons, List.all_nil, List.contains_cons, Nat.reduceBEq, Bool.or_false, Bool.false_or, Bool.or_true, Bool.true_or, beq_self_eq_true, List.contains_nil, trD, at0, at1, w00, w01, w02, w03, w04, w05, w10, w11, w12, w13, w14, w15, w20, w21, w22, w23, w24, w25, w30, w31, w32, w33, w34, w35, w40, w41, w42, w43, w44, w45, w50, w51, w52, w53, w54, w55, il_tr, stD, e_rest ht (by omega) k (by omega)]
  | n + 1, _, .neg ht, hn, k + 1, hk => by
    unfold r_L_rest m_L_rest
    simp only [calmF_ap, le_line, lt_line, var_ap, c_ap, op_ap, un_ap, b_ap, and_ap, or_ap, not_ap, if_ap, andV_ap, orV_ap, ch_ap, nil_ap, cons_ap, star_ap, tup_ap, lst_ap, arm_ap, cb_ap, noPart_ap, part_ap, sl_ap, slL_ap, call_ap, callL_ap, mk_ap, fld_ap, prop_ap, meth_ap, callI_ap, get2_ap, dnew_ap, it_ap, itA_ap, yes_ap, next_ap, seq_ap, set_ap, setO_ap, drop_ap, ret_ap, retN_ap, brk_ap, cnt_ap, never_ap, ifS_ap, aug_ap, app_ap, ext_ap, pop_ap, par_ap, asg_ap, dset_ap, stF_ap, fldL_ap, see_f, see_g, okM_f, okM_g, okR_f, okR_g, okO_f, okO_g, hide_nil, hide_cons, setAll_cons, setAll_nil, wipe_nil, wipe_cons, runB_ap, runL_ap, startL_ap, startD_ap, out1_nx, out1_rt, dName_ap, dGTup_ap, dGLst_ap, dGCons_ap, dGNil_ap, dAdd_ap, dSub_ap, dMul_ap, dFdiv_ap, dMod_ap, dLt_ap, dLe_ap, dGt_ap, dGe_ap, bOf_ap, dNeg_ap, dNot_ap, eqS_int, eqS_bl, eqS_str, dInt1_ap, dInt1_bl, dMax2_ap, dMin2_ap, dAbs_ap, dSum_ap, dAny_ap, dAll_ap, dLen_l, dLen_t, dLen_a, dIx_l, dIx_t, dIx_a, dTup_ap, dLst_ap, dArm_ap, dList_l, dList_t, dTupl_ap, dTupA_ap, lstOf_ap, tupOf_t, tupOf_a, itemsOf_t, itemsOf_l, dSl_l, dSl_t, dSlL_ap, dCatL_ap, dIsN_ap, rng1_ap, rng2_ap, dRange_1, dRange_2, dRange3_ap, ownB_ap, ownT_ap, ownN_ap, eqI_ap, isC_y, il_int, il_bl, il_str, il_non, il_tup, il_lst, il_armD, il_ins, il_dic, il_ar, il_rig, Bool.false_eq_true, if_false, if_true, Res.bind_ok, Res.bind_bad, Res.out_ok, Res.out_bad, Res.calm_ok, List.map_cons, List.map_nil, List.length_cons, List.length_nil, Nat.reduceAdd, Nat.reduceSub, List.replicate, List.cons_append, List.nil_append, List.getElem?_cons_zero, List.getElem?_cons_succ, List.set_cons_succ, List.set_cons_zero, Bool.true_and, Bool.and_true, Bool.not_false, Bool.not_true, List.contains_nil, Option.bind_some, for_ap, lc_ap, Nat.reduceEqDiff, Nat.reduceLeDiff, Bool.false_xor, Bool.true_xor, and_self, decide_true, decide_false, List.lookup, List.all_cons, List.all_nil, List.contains_cons, Nat.reduceBEq, Bool.or_false, Bool.false_or, Bool.or_true, Bool.true_or, beq_self_eq_true, List.contains_nil, trD, at0, at1, w00, w01, w02, w03, w04, w05, w10, w11, w12, w13, w14, w15, w20, w21, w22, w23, w24, w25, w30, w31, w32, w33, w34, w35, w40, w41, w42, w43, w44, w45, w50, w51, w52, w53, w54, w55, il_tr, stD, e_rest ht (by omega) k (by omega)]
  | n + 1, _, .add ha hb, hn, k + 1, hk => by
    unfold r_L_rest m_L_rest
    simp only [calmF_ap, le_line, lt_line, var_ap, c_ap, op_ap, un_ap, b_ap, and_ap, or_ap, not_ap, if_ap, andV_ap, orV_ap, ch_ap, nil_ap, cons_ap, star_ap, tup_ap, lst_ap, arm_ap, cb_ap, noPart_ap, part_ap, sl_ap, slL_ap, call_ap, callL_ap, mk_ap, fld_ap, prop_ap, meth_ap, callI_ap, get2_ap, dnew_ap, it_ap, itA_ap, yes_ap, next_ap, seq_ap, set_ap, setO_ap, drop_ap, ret_ap, retN_ap, brk_ap, cnt_ap, never_ap, ifS_ap, aug_ap, app_ap, ext_ap, pop_ap, par_ap, asg_ap, dset_ap, stF_ap, fldL_ap, see_f, see_g, okM_f, okM_g, okR_f, okR_g, okO_f, okO_g, hide_nil, hide_cons, setAll_cons, setAll_nil, wipe_nil, wipe_cons, runB_ap, runL_ap, startL_ap, startD_ap, out1_nx, out1_rt, dName_ap, dGTup_ap, dGLst_ap, dGCons_ap, dGNil_ap, dAdd_ap, dSub_ap, dMul_ap, dFdiv_ap, dMod_ap, dLt_ap, dLe_ap, dGt_ap, dGe_ap, bOf_ap, dNeg_ap, dNot_ap, eqS_int, eqS_bl, eqS_str, dInt1_ap, dInt1_bl, dMax2_ap, dMin2_ap, dAbs_ap, dSum_ap, dAny_ap, dAll_ap, dLen_l, dLen_t, dLen_a, dIx_l, dIx_t, dIx_a, dTup_ap, dLst_ap, dArm_ap, dList_l, dList_t, dTupl_ap, dTupA_ap, lstOf_ap, tupOf_t, tupOf_a, itemsOf_t, itemsOf_l, dSl_l, dSl_t, dSlL_ap, dCatL_ap, dIsN_ap, rng1_ap, rng2_ap, dRange_1, dRange_2, dRange3_ap, ownB_ap, ownT_ap, ownN_ap, eqI_ap, isC_y, il_int, il_bl, il_str, il_non, il_tup, il_lst, il_armD, il_ins, il_dic, il_ar, il_rig, Bool.false_eq_true, if_false, if_true, Res.bind_ok, Res.bind_bad, Res.out_ok, Res.out_bad, Res.calm_ok, List.map_cons, List.map_nil, List.length_cons, List.length_nil, Nat.reduceAdd, Nat.reduceSub, List.replicate, List.cons_append, List.nil_append, List.getElem?_cons_zero, List.getElem?_cons_succ, List.set_cons_succ, List.set_cons_zero, Bool.true_and, Bool.and_true, Bool.not_false, Bool.not_true, List.contains_nil, Option.bind_some, for_ap, lc_ap, Nat.reduceEqDiff, Nat.reduceLeDiff, Bool.false_xor, Bool.true_xor, and_self, decide_true, decide_false, List.lookup, List.all_cons, List.all_nil, List.contains_cons, Nat.reduceBEq, Bool.or_false, Bool.false_or, Bool.or_true, Bool.true_or, beq_self_eq_true, List.contains_nil, trD, at0, at1, at2, w00, w01, w02, w03, w04, w05, w10, w11, w12, w13, w14, w15, w20, w21, w22, w23, w24, w25, w30, w31, w32, w33, w34, w35, w40, w41, w42, w43, w44, w45, w50, w51, w52, w53, w54, w55, il_tr, stD, e_rest ha (by omega) k (by omega), e_rest hb (by omega) k (by omega)]
  | n + 1, _, .sub ha hb, hn, k + 1, hk => by
    unfold r_L_rest m_L_rest
    simp only [calmF_ap, le_line, lt_line, var_ap, c_ap, op_ap, un_ap, b_ap, and_ap, or_ap, not_ap, if_ap, andV_ap, orV_ap, ch_ap, nil_ap, cons_ap, star_ap, tup_ap, lst_ap, arm_ap, cb_ap, noPart_ap, part_ap, sl_ap, slL_ap, call_ap, callL_ap, mk_ap, fld_ap, prop_ap, meth_ap, callI_ap, get2_ap, dnew_ap, it_ap, itA_ap, yes_ap, next_ap, seq_ap, set_ap, setO_ap, drop_ap, ret_ap, retN_ap, brk_ap, cnt_ap, never_ap, ifS_ap, aug_ap, app_ap, ext_ap, pop_ap, par_ap, asg_ap, dset_ap, stF_ap, fldL_ap, see_f, see_g, okM_f, okM_g, okR_f, okR_g, okO_f, okO_g, hide_nil, hide_cons, setAll_cons, setAll_nil, wipe_nil, wipe_cons, runB_ap, runL_ap, startL_ap, startD_ap, out1_nx, out1_rt, dName_ap, dGTup_ap, dGLst_ap, dGCons_ap, dGNil_ap, dAdd_ap, dSub_ap, dMul_ap, dFdiv_ap, dMod_ap, dLt_ap, dLe_ap, dGt_ap, dGe_ap, bOf_ap, dNeg_ap, dNot_ap, eqS_int, eqS_bl, eqS_str, dInt1_ap, dInt1_bl, dMax2_ap, dMin2_ap, dAbs_ap, dSum_ap, dAny_ap, dAll_ap, dLen_l, dLen_t, dLen_a, dIx_l, dIx_t, dIx_a, dTup_ap, dLst_ap, dArm_ap, dList_l, dList_t, dTupl_ap, dTupA_ap, lstOf_ap, tupOf_t, tupOf_a, itemsOf_t, itemsOf_l, dSl_l, dSl_t, dSlL_ap, dCatL_ap, dIsN_ap, rng1_ap, rng2_ap, dRange_1, dRange_2, dRange3_ap, ownB_ap, ownT_ap, ownN_ap, eqI_ap, isC_y, il_int, il_bl, il_str, il_non, il_tup, il_lst, il_armD, il_ins, il_dic, il_ar, il_rig, Bool.false_eq_true, if_false, if_true, Res.bind_ok, Res.bind_bad, Res.out_ok, Res.out_bad, Res.calm_ok, List.map_cons, List.map_nil, List.length_cons, List.length_nil, Nat.reduceAdd, Nat.reduceSub, List.replicate, List.cons_append, List.nil_append, List.getElem?_cons_zero, List.getElem?_cons_succ, List.set_cons_succ, List.set_cons_zero, Bool.true_and, Bool.and_true, Bool.not_false, Bool.not_true, List.contains_nil, Option.bind_some, for_ap, lc_ap, Nat.reduceEqDiff, Nat.reduceLeDiff, Bool.false_xor, Bool.true_xor, and_self, decide_true, decide_false, List.lookup, List.all_cons, List.all_nil, List.contains_cons, Nat.reduceBEq, Bool.or_false, Bool.false_or, Bool.or_true, Bool.true_or, beq_self_eq_true, List.contains_nil, trD, at0, at1, at2, w00, w01, w02, w03, w04, w05, w10, w11, w12, w13, w14, w15, w20, w21, w22, w23, w24, w25, w30, w31, w32, w33, w34, w35, w40, w41, w42, w43, w44, w45, w50, w51, w52, w53, w54, w55, il_tr, stD, e_rest ha (by omega) k (by omega), e_rest hb (by omega) k (by omega)]
  | n + 1, _, .chn ha hb hr, hn, k + 1, hk => by
    unfold r_L_rest m_L_rest
    simp only [calmF_ap, le_line, lt_line, var_ap, c_ap, op_ap, un_ap, b_ap, and_ap, or_ap, not_ap, if_ap, andV_ap, orV_ap, ch_ap, nil_ap, cons_ap, star_ap, tup_ap, lst_ap, arm_ap, cb_ap, noPart_ap, part_ap, sl_ap, slL_ap, call_ap, callL_ap, mk_ap, fld_ap, prop_ap, meth_ap, callI_ap, get2_ap, dnew_ap, it_ap, itA_ap, yes_ap, next_ap, seq_ap, set_ap, setO_ap, drop_ap, ret_ap, retN_ap, brk_ap, cnt_ap, never_ap, ifS_ap, aug_ap, app_ap, ext_ap, pop_ap, par_ap, asg_ap, dset_ap, stF_ap, fldL_ap, see_f, see_g, okM_f, okM_g, okR_f, okR_g, okO_f, okO_g, hide_nil, hide_cons, setAll_cons, setAll_nil, wipe_nil, wipe_cons, runB_ap, runL_ap, startL_ap, startD_ap, out1_nx, out1_rt, dName_ap, dGTup_ap, dGLst_ap, dGCons_ap, dGNil_ap, dAdd_ap, dSub_ap, dMul_ap, dFdiv_ap, dMod_ap, dLt_ap, dLe_ap, dGt_ap, dGe_ap, bOf_ap, dNeg_ap, dNot_ap, eqS_int, eqS_bl, eqS_str, dInt1_ap, dInt1_bl, dMax2_ap, dMin2_ap, dAbs_ap, dSum_ap, dAny_ap, dAll_ap, dLen_l, dLen_t, dLen_a, dIx_l, dIx_t, dIx_a, dTup_ap, dLst_ap, dArm_ap, dList_l, dList_t, dTupl_ap, dTupA_ap, lstOf_ap, tupOf_t, tupOf_a, itemsOf_t, itemsOf_l, dSl_l, dSl_t, dSlL_ap, dCatL_ap, dIsN_ap, rng1_ap, rng2_ap, dRange_1, dRange_2, dRange3_ap, ownB_ap, ownT_ap, ownN_ap, eqI_ap, isC_y, il_int, il_bl, il_str, il_non, il_tup, il_lst, il_armD, il_ins, il_dic, il_ar, il_rig, Bool.false_eq_true, if_false, if_true, Res.bind_ok, Res.bind_bad, Res.out_ok, Res.out_bad, Res.calm_ok, List.map_cons, List.map_nil, List.length_cons, List.length_nil, Nat.reduceAdd, Nat.reduceSub, List.replicate, List.cons_append, List.nil_append, List.getElem?_cons_zero, List.getElem?_cons_succ, List.set_cons_succ, List.set_cons_zero, Bool.true_and, Bool.and_true, Bool.not_false, Bool.not_true, List.contains_nil, Option.bind_some, for_ap, lc_ap, Nat.reduceEqDiff, Nat.reduceLeDiff, Bool.false_xor, Bool.true_xor, and_self, decide_true, decide_false, List.lookup, List.all_cons, List.all_nil, List.contains_cons, Nat.reduceBEq, Bool.or_false, Bool.false_or, Bool.or_true, Bool.true_or, beq_self_eq_true, List.contains_nil, trD, at0, at1, at2, w00, w01, w02, w03, w04, w05, w10, w11, w12, w13, w14, w15, w20, w21, w22, w23, w24, w25, w30, w31, w32, w33, w34, w35, w40, w41, w42, w43, w44, w45, w50, w51, w52, w53, w54, w55, il_tr, stD, e_rest ha (by omega) k (by omega), e_rest hb (by omega) k (by omega), ((ha.rb (by omega)).1.c).zero]
theorem fo_nil {own : List Nat} : flOk own [] [] = true := rfl
theorem fo_cons {own is : List Nat} {i : Nat} {b : Bool} {fl : List Bool} : flOk own (i :: is) (b :: fl) = ((b == own.contains i) && flOk own is fl) := rfl
theorem nd_nil : decide (([] : List Nat).Nodup) = true := rfl
theorem nd_cons {is : List Nat} {i : Nat} : decide ((i :: is).Nodup) = (!is.contains i && decide is.Nodup) := by
  simp [List.nodup_cons]
def Ub : Nat → Int
  | 0 => 8000000
  | 1 => 8000000
  | 2 => 2000000
  | _ => 200000
theorem Ub_le (n : Nat) : Ub n ≤ 8000000 := by match n with | 0 => decide | 1 => decide | 2 => decide | n + 3 => exact (by decide : (200000 : Int) ≤ 8000000)
theorem Ub_mul {n : Nat} (hn : n + 1 ≤ 3) {x : Int} (h0 : 0 ≤ x) (h : x ≤ Ub (n + 1)) : Lb n * x ≤ Ub n ∧ x ≤ Ub n := by
  match n, hn with
  | 0, _ => simp only [Lb, Ub] at *; omega
  | 1, _ => simp only [Lb, Ub] at *; omega
  | 2, _ => simp only [Lb, Ub] at *; omega
theorem cv_le {a : Arms} {M L : Int} {n : Nat} (r : RB a M L n) {x : Int} (h0 : 0 ≤ x) : cv a x ≤ L * x := by
  have := r.far (Int.le_refl 0) h0
  rw [r.c.zero, show (0 : Int) + x = x by omega] at this
  omega
theorem e_step : ∀ {n : Nat} {t : Tr}, TOk n t → n ≤ 3 → ∀ k, n < k → ∀ x y : Int, 0 ≤ x → (y = x ∨ y = x + 1) → y ≤ Ub n → r_L_step k [trD t, stD t x, .int y] [] = .ok (.tup [.int (cv t.ar y), stD t y]) []
  | n, _, .rod (s := s) h0 h6, hn, k + 1, hk, x, y, hx, hy, hu => by
    unfold r_L_step m_L_step
    have e : (if y < (if y - s > pos (x - s) then y - s else pos (x - s)) then y else (if y - s > pos (x - s) then y - s else pos (x - s))) = pos (y - s) := by
      unfold pos
      repeat' split
      all_goals omega
    simp only [calmF_ap, le_line, lt_line, var_ap, c_ap, op_ap, un_ap, b_ap, and_ap, or_ap, not_ap, if_ap, andV_ap, orV_ap, ch_ap, nil_ap, cons_ap, star_ap, tup_ap, lst_ap, arm_ap, cb_ap, noPart_ap, part_ap, sl_ap, slL_ap, call_ap, callL_ap, mk_ap, fld_ap, prop_ap, meth_ap, callI_ap, get2_ap, dnew_ap, it_ap, itA_ap, yes_ap, next_ap, seq_ap, set_ap, setO_ap, drop_ap, ret_ap, retN_ap, brk_ap, cnt_ap, never_ap, ifS_ap, aug_ap, app_ap, ext_ap, pop_ap, par_ap, asg_ap, dset_ap, stF_ap, fldL_ap, see_f, see_g, okM_f, okM_g, okR_f, okR_g, okO_f, okO_g, hide_nil, hide_cons, setAll_cons, setAll_nil, wipe_nil, wipe_cons, runB_ap, runL_ap, startL_ap, startD_ap, out1_nx, out1_rt, dName_ap, dGTup_ap, dGLst_ap, dGCons_ap, dGNil_ap, dAdd_ap, dSub_ap, dMul_ap, dFdiv_ap, dMod_ap, dLt_ap, dLe_ap, dGt_ap, dGe_ap, bOf_ap, dNeg_ap, dNot_ap, eqS_int, eqS_bl, eqS_str, dInt1_ap, dInt1_bl, dMax2_ap, dMin2_ap, dAbs_ap, dSum_ap, dAny_ap, dAll_ap, dLen_l, dLen_t, dLen_a, dIx_l, dIx_t, dIx_a, dTup_ap, dLst_ap, dArm_ap, dList_l, dList_t, dTupl_ap, dTupA_ap, lstOf_ap, tupOf_t, tupOf_a, itemsOf_t, itemsOf_l, dSl_l, dSl_t, dSlL_ap, dCatL_ap, dIsN_ap, rng1_ap, rng2_ap, dRange_1, dRange_2, dRange3_ap, ownB_ap, ownT_ap, ownN_ap, eqI_ap, isC_y, il_int, il_bl, il_str, il_non, il_tup, il_lst, il_armD, il_ins, il_dic, il_ar, il_rig, Bool.false_eq_true, if_false, if_true, Res.bind_ok, Res.bind_bad, Res.out_ok, Res.out_bad, Res.calm_ok, List.map_cons, List.map_nil, List.length_cons, List.length_nil, Nat.reduceAdd, Nat.reduceSub, List.replicate, List.cons_append, List.nil_append, List.getElem?_cons_zero, List.getElem?_cons_succ, List.set_cons_succ, List.set_cons_zero, Bool.true_and, Bool.and_true, Bool.not_false, Bool.not_true, List.contains_nil, Option.bind_some, for_ap, lc_ap, Nat.reduceEqDiff, Nat.reduceLeDiff, Bool.false_xor, Bool.true_xor, and_self, decide_true, decide_false, List.lookup, List.all_cons, List.all_nil, List.contains_cons, Nat.reduceBEq, Bool.or_false, Bool.false_or, Bool.or_true, Bool.true_or, beq_self_eq_true, List.contains_nil, trD, at0, at1, w00, w01, w02, w03, w04, w05, w10, w11, w12, w13, w14, w15, w20, w21, w22, w23, w24, w25, w30, w31, w32, w33, w34, w35, w40, w41, w42, w43, w44, w45, w50, w51, w52, w53, w54, w55, il_tr, stD, il_st, e, Tr.ar, cv_cons, cv_nil]
    simp
  | n + 1, _, .mul (t := t) (k := c) ht h1 h2, hn, k + 1, hk, x, y, hx, hy, hu => by
    have hU := Ub_mul hn (show 0 ≤ y by omega) hu
    unfold r_L_step m_L_step
    have hm : CMul (cv t.ar y) c := cmul_r ⟨by omega, by omega⟩
    simp only [calmF_ap, le_line, lt_line, var_ap, c_ap, op_ap, un_ap, b_ap, and_ap, or_ap, not_ap, if_ap, andV_ap, orV_ap, ch_ap, nil_ap, cons_ap, star_ap, tup_ap, lst_ap, arm_ap, cb_ap, noPart_ap, part_ap, sl_ap, slL_ap, call_ap, callL_ap, mk_ap, fld_ap, prop_ap, meth_ap, callI_ap, get2_ap, dnew_ap, it_ap, itA_ap, yes_ap, next_ap, seq_ap, set_ap, setO_ap, drop_ap, ret_ap, retN_ap, brk_ap, cnt_ap, never_ap, ifS_ap, aug_ap, app_ap, ext_ap, pop_ap, par_ap, asg_ap, dset_ap, stF_ap, fldL_ap, see_f, see_g, okM_f, okM_g, okR_f, okR_g, okO_f, okO_g, hide_nil, hide_cons, setAll_cons, setAll_nil, wipe_nil, wipe_cons, runB_ap, runL_ap, startL_ap, startD_ap, out1_nx, out1_rt, dName_ap, dGTup_ap, dGLst_ap, dGCons_ap, dGNil_ap, dAdd_ap, dSub_ap, dMul_ap, dFdiv_ap, dMod_ap, dLt_ap, dLe_ap, dGt_ap, dGe_ap, bOf_ap, dNeg_ap, dNot_ap, eqS_int, eqS_bl, eqS_str, dInt1_ap, dInt1_bl, dMax2_ap, dMin2_ap, dAbs_ap, dSum_ap, dAny_ap, dAll_ap, dLen_l, dLen_t, dLen_a, dIx_l, dIx_t, dIx_a, dTup_ap, dLst_ap, dArm_ap, dList_l, dList_t, dTupl_ap, dTupA_ap, lstOf_ap, tupOf_t, tupOf_a, itemsOf_t, itemsOf_l, dSl_l, dSl_t, dSlL_ap, dCatL_ap, dIsN_ap, rng1_ap, rng2_ap, dRange_1, dRange_2, dRange3_ap, ownB_ap, ownT_ap, ownN_ap, eqI_ap, isC_y, il_int, il_bl, il_str, il_non, il_tup, il_lst, il_armD, il_ins, il_dic, il_ar, il_rig, Bool.false_eq_true, if_false, if_true, Res.bind_ok, Res.bind_bad, Res.out_ok, Res.out_bad, Res.calm_ok, List.map_cons, List.map_nil, List.length_cons, List.length_nil, Nat.reduceAdd, Nat.reduceSub, List.replicate, List.cons_append, List.nil_append, List.getElem?_cons_zero, List.getElem?_cons_succ, List.set_cons_succ, List.set_cons_zero, Bool.true_and, Bool.and_true, Bool.not_false, Bool.not_true, List.contains_nil, Option.bind_some, for_ap, lc_ap, Nat.reduceEqDiff, Nat.reduceLeDiff, Bool.false_xor, Bool.true_xor, and_self, decide_true, decide_false, List.lookup, List.all_cons, List.all_nil, List.contains_cons, Nat.reduceBEq, Bool.or_false, Bool.false_or, Bool.or_true, Bool.true_or, beq_self_eq_true, List.contains_nil, trD, at0, at1, at2, w00, w01, w02, w03, w04, w05, w10, w11, w12, w13, w14, w15, w20, w21, w22, w23, w24, w25, w30, w31, w32, w33, w34, w35, w40, w41, w42, w43, w44, w45, w50, w51, w52, w53, w54, w55, il_tr, stD, il_st, e_step ht (by omega) k (by omega) x y hx hy hU.2, hm, Tr.ar]
    rw [addA_cv ⟨.nil, by simp⟩, Int.mul_comm]
    simp
  | n + 1, _, .neg (t := t) ht, hn, k + 1, hk, x, y, hx, hy, hu => by
    have hU := Ub_mul hn (show 0 ≤ y by omega) hu
    unfold r_L_step m_L_step
    simp only [calmF_ap, le_line, lt_line, var_ap, c_ap, op_ap, un_ap, b_ap, and_ap, or_ap, not_ap, if_ap, andV_ap, orV_ap, ch_ap, nil_ap, cons_ap, star_ap, tup_ap, lst_ap, arm_ap, cb_ap, noPart_ap, part_ap, sl_ap, slL_ap, call_ap, callL_ap, mk_ap, fld_ap, prop_ap, meth_ap, callI_ap, get2_ap, dnew_ap, it_ap, itA_ap, yes_ap, next_ap, seq_ap, set_ap, setO_ap, drop_ap, ret_ap, retN_ap, brk_ap, cnt_ap, never_ap, ifS_ap, aug_ap, app_ap, ext_ap, pop_ap, par_ap, asg_ap, dset_ap, stF_ap, fldL_ap, see_f, see_g, okM_f, okM_g, okR_f, okR_g, okO_f, okO_g, hide_nil, hide_cons, setAll_cons, setAll_nil, wipe_nil, wipe_cons, runB_ap, runL_ap, startL_ap, startD_ap, out1_nx, out1_rt, dName_ap, dGTup_ap, dGLst_ap, dGCons_ap, dGNil_ap, dAdd_ap, dSub_ap, dMul_ap, dFdiv_ap, dMod_ap, dLt_ap, dLe_ap, dGt_ap, dGe_ap, bOf_ap, dNeg_ap, dNot_ap, eqS_int, eqS_bl, eqS_str, dInt1_ap, dInt1_bl, dMax2_ap, dMin2_ap, dAbs_ap, dSum_ap, dAny_ap, dAll_ap, dLen_l, dLen_t, dLen_a, dIx_l, dIx_t, dIx_a, dTup_ap, dLst_ap, dArm_ap, dList_l, dList_t, dTupl_ap, dTupA_ap, lstOf_ap, tupOf_t, tupOf_a, itemsOf_t, itemsOf_l, dSl_l, dSl_t, dSlL_ap, dCatL_ap, dIsN_ap, rng1_ap, rng2_ap, dRange_1, dRange_2, dRange3_ap, ownB_ap, ownT_ap, ownN_ap, eqI_ap, isC_y, il_int, il_bl, il_str, il_non, il_tup, il_lst, il_armD, il_ins, il_dic, il_ar, il_rig, Bool.false_eq_true, if_false, if_true, Res.bind_ok, Res.bind_bad, Res.out_ok, Res.out_bad, Res.calm_ok, List.map_cons, List.map_nil, List.length_cons, List.length_nil, Nat.reduceAdd, Nat.reduceSub, List.replicate, List.cons_append, List.nil_append, List.getElem?_cons_zero, List.getElem?_cons_succ, List.set_cons_succ, List.set_cons_zero, Bool.true_and, Bool.and_true, Bool.not_false, Bool.not_true, List.contains_nil, Option.bind_some, for_ap, lc_ap, Nat.reduceEqDiff, Nat.reduceLeDiff, Bool.false_xor, Bool.true_xor, and_self, decide_true, decide_false, List.lookup, List.all_cons, List.all_nil, List.contains_cons, Nat.reduceBEq, Bool.or_false, Bool.false_or, Bool.or_true, Bool.true_or, beq_self_eq_true, List.contains_nil, trD, at0, at1, at2, w00, w01, w02, w03, w04, w05, w10, w11, w12, w13, w14, w15, w20, w21, w22, w23, w24, w25, w30, w31, w32, w33, w34, w35, w40, w41, w42, w43, w44, w45, w50, w51, w52, w53, w54, w55, il_tr, stD, il_st, e_step ht (by omega) k (by omega) x y hx hy hU.2, Tr.ar]
    rw [addA_cv ⟨.nil, by simp⟩]
    simp
  | n + 1, _, .add (a := a) (b := b) ha hb, hn, k + 1, hk, x, y, hx, hy, hu => by
    have hU := Ub_mul hn (show 0 ≤ y by omega) hu
    unfold r_L_step m_L_step
    simp only [calmF_ap, le_line, lt_line, var_ap, c_ap, op_ap, un_ap, b_ap, and_ap, or_ap, not_ap, if_ap, andV_ap, orV_ap, ch_ap, nil_ap, cons_ap, star_ap, tup_ap, lst_ap, arm_ap, cb_ap, noPart_ap, part_ap, sl_ap, slL_ap, call_ap, callL_ap, mk_ap, fld_ap, prop_ap, meth_ap, callI_ap, get2_ap, dnew_ap, it_ap, itA_ap, yes_ap, next_ap, seq_ap, set_ap, setO_ap, drop_ap, ret_ap, retN_ap, brk_ap, cnt_ap, never_ap, ifS_ap, aug_ap, app_ap, ext_ap, pop_ap, par_ap, asg_ap, dset_ap, stF_ap, fldL_ap, see_f, see_g, okM_f, okM_g, okR_f, okR_g, okO_f, okO_g, hide_nil, hide_cons, setAll_cons, setAll_nil, wipe_nil, wipe_cons, runB_ap, runL_ap, startL_ap, startD_ap, out1_nx, out1_rt, dName_ap, dGTup_ap, dGLst_ap, dGCons_ap, dGNil_ap, dAdd_ap, dSub_ap, dMul_ap, dFdiv_ap, dMod_ap, dLt_ap, dLe_ap, dGt_ap, dGe_ap, bOf_ap, dNeg_ap, dNot_ap, eqS_int, eqS_bl, eqS_str, dInt1_ap, dInt1_bl, dMax2_ap, dMin2_ap, dAbs_ap, dSum_ap, dAny_ap, dAll_ap, dLen_l, dLen_t, dLen_a, dIx_l, dIx_t, dIx_a, dTup_ap, dLst_ap, dArm_ap, dList_l, dList_t, dTupl_ap, dTupA_ap, lstOf_ap, tupOf_t, tupOf_a, itemsOf_t, itemsOf_l, dSl_l, dSl_t, dSlL_ap, dCatL_ap, dIsN_ap, rng1_ap, rng2_ap, dRange_1, dRange_2, dRange3_ap, ownB_ap, ownT_ap, ownN_ap, eqI_ap, isC_y, il_int, il_bl, il_str, il_non, il_tup, il_lst, il_armD, il_ins, il_dic, il_ar, il_rig, Bool.false_eq_true, if_false, if_true, Res.bind_ok, Res.bind_bad, Res.out_ok, Res.out_bad, Res.calm_ok, List.map_cons, List.map_nil, List.length_cons, List.length_nil, Nat.reduceAdd, Nat.reduceSub, List.replicate, List.cons_append, List.nil_append, List.getElem?_cons_zero, List.getElem?_cons_succ, List.set_cons_succ, List.set_cons_zero, Bool.true_and, Bool.and_true, Bool.not_false, Bool.not_true, List.contains_nil, Option.bind_some, for_ap, lc_ap, Nat.reduceEqDiff, Nat.reduceLeDiff, Bool.false_xor, Bool.true_xor, and_self, decide_true, decide_false, List.lookup, List.all_cons, List.all_nil, List.contains_cons, Nat.reduceBEq, Bool.or_false, Bool.false_or, Bool.or_true, Bool.true_or, beq_self_eq_true, List.contains_nil, trD, at0, at1, at2, w00, w01, w02, w03, w04, w05, w10, w11, w12, w13, w14, w15, w20, w21, w22, w23, w24, w25, w30, w31, w32, w33, w34, w35, w40, w41, w42, w43, w44, w45, w50, w51, w52, w53, w54, w55, il_tr, stD, il_st, e_step ha (by omega) k (by omega) x y hx hy hU.2, e_step hb (by omega) k (by omega) x y hx hy hU.2, Tr.ar, fo_nil, fo_cons, nd_nil, nd_cons, eq_self]
    rw [addA_cv (ha.rb (by omega)).1.c]
    simp
  | n + 1, _, .sub (a := a) (b := b) ha hb, hn, k + 1, hk, x, y, hx, hy, hu => by
    have hU := Ub_mul hn (show 0 ≤ y by omega) hu
    unfold r_L_step m_L_step
    simp only [calmF_ap, le_line, lt_line, var_ap, c_ap, op_ap, un_ap, b_ap, and_ap, or_ap, not_ap, if_ap, andV_ap, orV_ap, ch_ap, nil_ap, cons_ap, star_ap, tup_ap, lst_ap, arm_ap, cb_ap, noPart_ap, part_ap, sl_ap, slL_ap, call_ap, callL_ap, mk_ap, fld_ap, prop_ap, meth_ap, callI_ap, get2_ap, dnew_ap, it_ap, itA_ap, yes_ap, next_ap, seq_ap, set_ap, setO_ap, drop_ap, ret_ap, retN_ap, brk_ap, cnt_ap, never_ap, ifS_ap, aug_ap, app_ap, ext_ap, pop_ap, par_ap, asg_ap, dset_ap, stF_ap, fldL_ap, see_f, see_g, okM_f, okM_g, okR_f, okR_g, okO_f, okO_g, hide_nil, hide_cons, setAll_cons, setAll_nil, wipe_nil, wipe_cons, runB_ap, runL_ap, startL_ap, startD_ap, out1_nx, out1_rt, dName_ap, dGTup_ap, dGLst_ap, dGCons_ap, dGNil_ap, dAdd_ap, dSub_ap, dMul_ap, dFdiv_ap, dMod_ap, dLt_ap, dLe_ap, dGt_ap, dGe_ap, bOf_ap, dNeg_ap, dNot_ap, eqS_int, eqS_bl, eqS_str, dInt1_ap, dInt1_bl, dMax2_ap, dMin2_ap, dAbs_ap, dSum_ap, dAny_ap, dAll_ap, dLen_l, dLen_t, dLen_a, dIx_l, dIx_t, dIx_a, dTup_ap, dLst_ap, dArm_ap, dList_l, dList_t, dTupl_ap, dTupA_ap, lstOf_ap, tupOf_t, tupOf_a, itemsOf_t, itemsOf_l, dSl_l, dSl_t, dSlL_ap, dCatL_ap, dIsN_ap, rng1_ap, rng2_ap, dRange_1, dRange_2, dRange3_ap, ownB_ap, ownT_ap, ownN_ap, eqI_ap, isC_y, il_int, il_bl, il_str, il_non, il_tup, il_lst, il_armD, il_ins, il_dic, il_ar, il_rig, Bool.false_eq_true, if_false, if_true, Res.bind_ok, Res.bind_bad, Res.out_ok, Res.out_bad, Res.calm_ok, List.map_cons, List.map_nil, List.length_cons, List.length_nil, Nat.reduceAdd, Nat.reduceSub, List.replicate, List.cons_append, List.nil_append, List.getElem?_cons_zero, List.getElem?_cons_succ, List.set_cons_succ, List.set_cons_zero, Bool.true_and, Bool.and_true, Bool.not_false, Bool.not_true, List.contains_nil, Option.bind_some, for_ap, lc_ap, Nat.reduceEqDiff, Nat.reduceLeDiff, Bool.false_xor, Bool.true_xor, and_self, decide_true, decide_false, List.lookup, List.all_cons, List.all_nil, List.contains_cons, Nat.reduceBEq, Bool.or_false, Bool.false_or, Bool.or_true, Bool.true_or, beq_self_eq_true, List.contains_nil, trD, at0, at1, at2, w00, w01, w02, w03, w04, w05, w10, w11, w12, w13, w14, w15, w20, w21, w22, w23, w24, w25, w30, w31, w32, w33, w34, w35, w40, w41, w42, w43, w44, w45, w50, w51, w52, w53, w54, w55, il_tr, stD, il_st, e_step ha (by omega) k (by omega) x y hx hy hU.2, e_step hb (by omega) k (by omega) x y hx hy hU.2, Tr.ar, fo_nil, fo_cons, nd_nil, nd_cons, eq_self]
    rw [addA_cv (ha.rb (by omega)).1.c]
    simp [Int.sub_eq_add_neg]
  | n + 1, _, .chn (a := a) (b := b) ha hb hr, hn, k + 1, hk, x, y, hx, hy, hu => by
    have hU := Ub_mul hn (show 0 ≤ y by omega) hu
    have r := (ha.rb (by omega)).1
    have q := (hb.rb (by omega)).1
    have hxy : x ≤ y := by omega
    have c0 := hr.nonneg r.c hx
    have c1 := hr.le hx hxy
    have c2 := cv_le r (show 0 ≤ y by omega)
    have hup : cv a.ar y ≤ Ub n := Int.le_trans c2 hU.1
    have hUl := Ub_le n
    unfold r_L_step m_L_step
    simp only [calmF_ap, le_line, lt_line, var_ap, c_ap, op_ap, un_ap, b_ap, and_ap, or_ap, not_ap, if_ap, andV_ap, orV_ap, ch_ap, nil_ap, cons_ap, star_ap, tup_ap, lst_ap, arm_ap, cb_ap, noPart_ap, part_ap, sl_ap, slL_ap, call_ap, callL_ap, mk_ap, fld_ap, prop_ap, meth_ap, callI_ap, get2_ap, dnew_ap, it_ap, itA_ap, yes_ap, next_ap, seq_ap, set_ap, setO_ap, drop_ap, ret_ap, retN_ap, brk_ap, cnt_ap, never_ap, ifS_ap, aug_ap, app_ap, ext_ap, pop_ap, par_ap, asg_ap, dset_ap, stF_ap, fldL_ap, see_f, see_g, okM_f, okM_g, okR_f, okR_g, okO_f, okO_g, hide_nil, hide_cons, setAll_cons, setAll_nil, wipe_nil, wipe_cons, runB_ap, runL_ap, startL_ap, startD_ap, out1_nx, out1_rt, dName_ap, dGTup_ap, dGLst_ap, dGCons_ap, dGNil_ap, dAdd_ap, dSub_ap, dMul_ap, dFdiv_ap, dMod_ap, dLt_ap, dLe_ap, dGt_ap, dGe_ap, bOf_ap, dNeg_ap, dNot_ap, eqS_int, eqS_bl, eqS_str, dInt1_ap, dInt1_bl, dMax2_ap, dMin2_ap, dAbs_ap, dSum_ap, dAny_ap, dAll_ap, dLen_l, dLen_t, dLen_a, dIx_l, dIx_t, dIx_a, dTup_ap, dLst_ap, dArm_ap, dList_l, dList_t, dTupl_ap, dTupA_ap, lstOf_ap, tupOf_t, tupOf_a, itemsOf_t, itemsOf_l, dSl_l, dSl_t, dSlL_ap, dCatL_ap, dIsN_ap, rng1_ap, rng2_ap, dRange_1, dRange_2, dRange3_ap, ownB_ap, ownT_ap, ownN_ap, eqI_ap, isC_y, il_int, il_bl, il_str, il_non, il_tup, il_lst, il_armD, il_ins, il_dic, il_ar, il_rig, Bool.false_eq_true, if_false, if_true, Res.bind_ok, Res.bind_bad, Res.out_ok, Res.out_bad, Res.calm_ok, List.map_cons, List.map_nil, List.length_cons, List.length_nil, Nat.reduceAdd, Nat.reduceSub, List.replicate, List.cons_append, List.nil_append, List.getElem?_cons_zero, List.getElem?_cons_succ, List.set_cons_succ, List.set_cons_zero, Bool.true_and, Bool.and_true, Bool.not_false, Bool.not_true, List.contains_nil, Option.bind_some, for_ap, lc_ap, Nat.reduceEqDiff, Nat.reduceLeDiff, Bool.false_xor, Bool.true_xor, and_self, decide_true, decide_false, List.lookup, List.all_cons, List.all_nil, List.contains_cons, Nat.reduceBEq, Bool.or_false, Bool.false_or, Bool.or_true, Bool.true_or, beq_self_eq_true, List.contains_nil, trD, at0, at1, at2, w00, w01, w02, w03, w04, w05, w10, w11, w12, w13, w14, w15, w20, w21, w22, w23, w24, w25, w30, w31, w32, w33, w34, w35, w40, w41, w42, w43, w44, w45, w50, w51, w52, w53, w54, w55, il_tr, stD, il_st, e_step ha (by omega) k (by omega) x y hx hy hU.2, e_step hb (by omega) k (by omega) (cv a.ar x) (cv a.ar x) c0 (.inl rfl) (by omega), Tr.ar, e_steps_up c0 c1 (show cv a.ar y ≤ 16000000 by omega)]
    unfold upL
    obtain ⟨ρ2, R2, h1, h2⟩ := loopG_range (T := dName 10) (n := (cv a.ar y - cv a.ar x).toNat) (enc := fun k : Nat => D.int (cv a.ar x + 1 + (k : Int)))
      (b := gAsg .f [] [6, 9] (dGTup 2 (dGCons (dName 6) (dGCons (dName 9) dGNil))) (gCall 3 (r_L_step k) (Pv.gCons (gOp dIx (gVar 0) (gC (.int 2))) (Pv.gCons (gVar 9) (Pv.gCons (gVar 10) Pv.gNil)))))
      (fun i ρ R => R = [] ∧ ∃ u, ρ = [some (.tup [.str ">>", trD a, trD b]), some (.tup [stD a x, .int (cv a.ar x), stD b (cv a.ar x)]), some (.int y), none, none, none, some (.int (cv b.ar (cv a.ar x + i))), some (stD a y), some (.int (cv a.ar y)), some (stD b (cv a.ar x + i)), u])
      (ρ := [some (.tup [.str ">>", trD a, trD b]), some (.tup [stD a x, .int (cv a.ar x), stD b (cv a.ar x)]), some (.int y), none, none, none, some (.int (cv b.ar (cv a.ar x))), some (stD a y), some (.int (cv a.ar y)), some (stD b (cv a.ar x)), none]) (R := []) ⟨rfl, none, by simp⟩ (by
        rintro i ρ R hi ⟨rfl, u, rfl⟩
        refine ⟨_, rfl, ?_⟩
        have e1 : cv a.ar x + 1 + (i : Int) = cv a.ar x + ((i + 1 : Nat) : Int) := by omega
        simp only [calmF_ap, le_line, lt_line, var_ap, c_ap, op_ap, un_ap, b_ap, and_ap, or_ap, not_ap, if_ap, andV_ap, orV_ap, ch_ap, nil_ap, cons_ap, star_ap, tup_ap, lst_ap, arm_ap, cb_ap, noPart_ap, part_ap, sl_ap, slL_ap, call_ap, callL_ap, mk_ap, fld_ap, prop_ap, meth_ap, callI_ap, get2_ap, dnew_ap, it_ap, itA_ap, yes_ap, next_ap, seq_ap, set_ap, setO_ap, drop_ap, ret_ap, retN_ap, brk_ap, cnt_ap, never_ap, ifS_ap, aug_ap, app_ap, ext_ap, pop_ap, par_ap, asg_ap, dset_ap, stF_ap, fldL_ap, see_f, see_g, okM_f, okM_g, okR_f, okR_g, okO_f, okO_g, hide_nil, hide_cons, setAll_cons, setAll_nil, wipe_nil, wipe_cons, runB_ap, runL_ap, startL_ap, startD_ap, out1_nx, out1_rt, dName_ap, dGTup_ap, dGLst_ap, dGCons_ap, dGNil_ap, dAdd_ap, dSub_ap, dMul_ap, dFdiv_ap, dMod_ap, dLt_ap, dLe_ap, dGt_ap, dGe_ap, bOf_ap, dNeg_ap, dNot_ap, eqS_int, eqS_bl, eqS_str, dInt1_ap, dInt1_bl, dMax2_ap, dMin2_ap, dAbs_ap, dSum_ap, dAny_ap, dAll_ap, dLen_l, dLen_t, dLen_a, dIx_l, dIx_t, dIx_a, dTup_ap, dLst_ap, dArm_ap, dList_l, dList_t, dTupl_ap, dTupA_ap, lstOf_ap, tupOf_t, tupOf_a, itemsOf_t, itemsOf_l, dSl_l, dSl_t, dSlL_ap, dCatL_ap, dIsN_ap, rng1_ap, rng2_ap, dRange_1, dRange_2, dRange3_ap, ownB_ap, ownT_ap, ownN_ap, eqI_ap, isC_y, il_int, il_bl, il_str, il_non, il_tup, il_lst, il_armD, il_ins, il_dic, il_ar, il_rig, Bool.false_eq_true, if_false, if_true, Res.bind_ok, Res.bind_bad, Res.out_ok, Res.out_bad, Res.calm_ok, List.map_cons, List.map_nil, List.length_cons, List.length_nil, Nat.reduceAdd, Nat.reduceSub, List.replicate, List.cons_append, List.nil_append, List.getElem?_cons_zero, List.getElem?_cons_succ, List.set_cons_succ, List.set_cons_zero, Bool.true_and, Bool.and_true, Bool.not_false, Bool.not_true, List.contains_nil, Option.bind_some, for_ap, lc_ap, Nat.reduceEqDiff, Nat.reduceLeDiff, Bool.false_xor, Bool.true_xor, and_self, decide_true, decide_false, List.lookup, List.all_cons, List.all_nil, List.contains_cons, Nat.reduceBEq, Bool.or_false, Bool.false_or, Bool.or_true, Bool.true_or, beq_self_eq_true, List.contains_nil, at0, at1, at2, il_tr, il_st]
        rw [e1, e_step hb (by omega) k (by omega) (cv a.ar x + (i : Int)) (cv a.ar x + ((i + 1 : Nat) : Int)) (by omega) (.inr (by omega)) (by omega)]
        simp only [calmF_ap, le_line, lt_line, var_ap, c_ap, op_ap, un_ap, b_ap, and_ap, or_ap, not_ap, if_ap, andV_ap, orV_ap, ch_ap, nil_ap, cons_ap, star_ap, tup_ap, lst_ap, arm_ap, cb_ap, noPart_ap, part_ap, sl_ap, slL_ap, call_ap, callL_ap, mk_ap, fld_ap, prop_ap, meth_ap, callI_ap, get2_ap, dnew_ap, it_ap, itA_ap, yes_ap, next_ap, seq_ap, set_ap, setO_ap, drop_ap, ret_ap, retN_ap, brk_ap, cnt_ap, never_ap, ifS_ap, aug_ap, app_ap, ext_ap, pop_ap, par_ap, asg_ap, dset_ap, stF_ap, fldL_ap, see_f, see_g, okM_f, okM_g, okR_f, okR_g, okO_f, okO_g, hide_nil, hide_cons, setAll_cons, setAll_nil, wipe_nil, wipe_cons, runB_ap, runL_ap, startL_ap, startD_ap, out1_nx, out1_rt, dName_ap, dGTup_ap, dGLst_ap, dGCons_ap, dGNil_ap, dAdd_ap, dSub_ap, dMul_ap, dFdiv_ap, dMod_ap, dLt_ap, dLe_ap, dGt_ap, dGe_ap, bOf_ap, dNeg_ap, dNot_ap, eqS_int, eqS_bl, eqS_str, dInt1_ap, dInt1_bl, dMax2_ap, dMin2_ap, dAbs_ap, dSum_ap, dAny_ap, dAll_ap, dLen_l, dLen_t, dLen_a, dIx_l, dIx_t, dIx_a, dTup_ap, dLst_ap, dArm_ap, dList_l, dList_t, dTupl_ap, dTupA_ap, lstOf_ap, tupOf_t, tupOf_a, itemsOf_t, itemsOf_l, dSl_l, dSl_t, dSlL_ap, dCatL_ap, dIsN_ap, rng1_ap, rng2_ap, dRange_1, dRange_2, dRange3_ap, ownB_ap, ownT_ap, ownN_ap, eqI_ap, isC_y, il_int, il_bl, il_str, il_non, il_tup, il_lst, il_armD, il_ins, il_dic, il_ar, il_rig, Bool.false_eq_true, if_false, if_true, Res.bind_ok, Res.bind_bad, Res.out_ok, Res.out_bad, Res.calm_ok, List.map_cons, List.map_nil, List.length_cons, List.length_nil, Nat.reduceAdd, Nat.reduceSub, List.replicate, List.cons_append, List.nil_append, List.getElem?_cons_zero, List.getElem?_cons_succ, List.set_cons_succ, List.set_cons_zero, Bool.true_and, Bool.and_true, Bool.not_false, Bool.not_true, List.contains_nil, Option.bind_some, for_ap, lc_ap, Nat.reduceEqDiff, Nat.reduceLeDiff, Bool.false_xor, Bool.true_xor, and_self, decide_true, decide_false, List.lookup, List.all_cons, List.all_nil, List.contains_cons, Nat.reduceBEq, Bool.or_false, Bool.false_or, Bool.or_true, Bool.true_or, beq_self_eq_true, List.contains_nil, at0, at1, at2, il_tr, il_st]
        exact ⟨_, _, .inl rfl, rfl, _, rfl⟩)
    obtain ⟨rfl, u, rfl⟩ := h2
    simp only [h1, calmF_ap, le_line, lt_line, var_ap, c_ap, op_ap, un_ap, b_ap, and_ap, or_ap, not_ap, if_ap, andV_ap, orV_ap, ch_ap, nil_ap, cons_ap, star_ap, tup_ap, lst_ap, arm_ap, cb_ap, noPart_ap, part_ap, sl_ap, slL_ap, call_ap, callL_ap, mk_ap, fld_ap, prop_ap, meth_ap, callI_ap, get2_ap, dnew_ap, it_ap, itA_ap, yes_ap, next_ap, seq_ap, set_ap, setO_ap, drop_ap, ret_ap, retN_ap, brk_ap, cnt_ap, never_ap, ifS_ap, aug_ap, app_ap, ext_ap, pop_ap, par_ap, asg_ap, dset_ap, stF_ap, fldL_ap, see_f, see_g, okM_f, okM_g, okR_f, okR_g, okO_f, okO_g, hide_nil, hide_cons, setAll_cons, setAll_nil, wipe_nil, wipe_cons, runB_ap, runL_ap, startL_ap, startD_ap, out1_nx, out1_rt, dName_ap, dGTup_ap, dGLst_ap, dGCons_ap, dGNil_ap, dAdd_ap, dSub_ap, dMul_ap, dFdiv_ap, dMod_ap, dLt_ap, dLe_ap, dGt_ap, dGe_ap, bOf_ap, dNeg_ap, dNot_ap, eqS_int, eqS_bl, eqS_str, dInt1_ap, dInt1_bl, dMax2_ap, dMin2_ap, dAbs_ap, dSum_ap, dAny_ap, dAll_ap, dLen_l, dLen_t, dLen_a, dIx_l, dIx_t, dIx_a, dTup_ap, dLst_ap, dArm_ap, dList_l, dList_t, dTupl_ap, dTupA_ap, lstOf_ap, tupOf_t, tupOf_a, itemsOf_t, itemsOf_l, dSl_l, dSl_t, dSlL_ap, dCatL_ap, dIsN_ap, rng1_ap, rng2_ap, dRange_1, dRange_2, dRange3_ap, ownB_ap, ownT_ap, ownN_ap, eqI_ap, isC_y, il_int, il_bl, il_str, il_non, il_tup, il_lst, il_armD, il_ins, il_dic, il_ar, il_rig, Bool.false_eq_true, if_false, if_true, Res.bind_ok, Res.bind_bad, Res.out_ok, Res.out_bad, Res.calm_ok, List.map_cons, List.map_nil, List.length_cons, List.length_nil, Nat.reduceAdd, Nat.reduceSub, List.replicate, List.cons_append, List.nil_append, List.getElem?_cons_zero, List.getElem?_cons_succ, List.set_cons_succ, List.set_cons_zero, Bool.true_and, Bool.and_true, Bool.not_false, Bool.not_true, List.contains_nil, Option.bind_some, for_ap, lc_ap, Nat.reduceEqDiff, Nat.reduceLeDiff, Bool.false_xor, Bool.true_xor, and_self, decide_true, decide_false, List.lookup, List.all_cons, List.all_nil, List.contains_cons, Nat.reduceBEq, Bool.or_false, Bool.false_or, Bool.or_true, Bool.true_or, beq_self_eq_true, List.contains_nil, il_st]
    rw [drA_cv r.c q.c hr (by omega), show cv a.ar x + ((cv a.ar y - cv a.ar x).toNat : Int) = cv a.ar y by omega]
/-- the curve's heights from `1` to `n`, as a list -/
def cuL (a : Arms) (n : Nat) : List D := (List.range n).map fun k : Nat => .int (cv a ((k : Int) + 1))
theorem cuL_succ (a : Arms) (n : Nat) : cuL a (n + 1) = cuL a n ++ [.int (cv a ((n : Int) + 1))] := by
  unfold cuL; rw [List.range_succ, List.map_append]; rfl
theorem cuL_len (a : Arms) (n : Nat) : (cuL a n).length = n := by simp [cuL]
theorem upL_1 (o : Int) : upL o 1 = [.int (o + 1)] := by simp [upL]
theorem e_f_step {n : Nat} {t : Tr} (h : TOk n t) (hn : n ≤ 3) {x y : Int} {R : Rs} (hx : 0 ≤ x) (hy : y = x ∨ y = x + 1) (hu : y ≤ Ub n) : f_L_step [trD t, stD t x, .int y] R = .ok (.tup [.int (cv t.ar y), stD t y]) R := by
  unfold f_L_step; exact pureF_ok (e_step h hn 6 (by omega) x y hx hy hu)
theorem e_f_rest {n : Nat} {t : Tr} {R : Rs} (h : TOk n t) (hn : n ≤ 3) : f_L_rest [trD t] R = .ok (stD t 0) R := by
  unfold f_L_rest; exact pureF_ok (e_rest h hn 6 (by omega))
theorem e_f_total {n : Nat} {t : Tr} {R : Rs} (h : TOk n t) (hn : n ≤ 3) : f_L_total [trD t] R = .ok (.int t.tot) R := by
  unfold f_L_total; exact pureF_ok (e_tot h 6 (by omega))
theorem e_path_up {n : Nat} {t : Tr} {R : Rs} (h : TOk n t) (hn : n ≤ 3) {m : Nat} (hm : (m : Int) ≤ Ub n) : ∃ f, f_L_path [trD t, .lst (upL 0 m)] R = .ok (.tup [.lst (cuL t.ar m), .int f]) R := by
  have hUl := Ub_le n
  unfold f_L_path
  have z := (h.rb hn).1.c.zero
  have hsz : ∀ i < m, i < sizeLine := fun i hi => Nat.lt_of_lt_of_le (show i < 9000000 by omega) (by decide)
  suffices hh : ∃ f, runB 10 m_L_path [trD t, .lst (upL 0 m)] [] = .ok (.tup [.lst (cuL t.ar m), .int f]) [] from hh.imp fun f hf => pureF_ok hf
  unfold m_L_path
  simp only [calmF_ap, le_line, lt_line, var_ap, c_ap, op_ap, un_ap, b_ap, and_ap, or_ap, not_ap, if_ap, andV_ap, orV_ap, ch_ap, nil_ap, cons_ap, star_ap, tup_ap, lst_ap, arm_ap, cb_ap, noPart_ap, part_ap, sl_ap, slL_ap, call_ap, callL_ap, mk_ap, fld_ap, prop_ap, meth_ap, callI_ap, get2_ap, dnew_ap, it_ap, itA_ap, yes_ap, next_ap, seq_ap, set_ap, setO_ap, drop_ap, ret_ap, retN_ap, brk_ap, cnt_ap, never_ap, ifS_ap, aug_ap, app_ap, ext_ap, pop_ap, par_ap, asg_ap, dset_ap, stF_ap, fldL_ap, see_f, see_g, okM_f, okM_g, okR_f, okR_g, okO_f, okO_g, hide_nil, hide_cons, setAll_cons, setAll_nil, wipe_nil, wipe_cons, runB_ap, runL_ap, startL_ap, startD_ap, out1_nx, out1_rt, dName_ap, dGTup_ap, dGLst_ap, dGCons_ap, dGNil_ap, dAdd_ap, dSub_ap, dMul_ap, dFdiv_ap, dMod_ap, dLt_ap, dLe_ap, dGt_ap, dGe_ap, bOf_ap, dNeg_ap, dNot_ap, eqS_int, eqS_bl, eqS_str, dInt1_ap, dInt1_bl, dMax2_ap, dMin2_ap, dAbs_ap, dSum_ap, dAny_ap, dAll_ap, dLen_l, dLen_t, dLen_a, dIx_l, dIx_t, dIx_a, dTup_ap, dLst_ap, dArm_ap, dList_l, dList_t, dTupl_ap, dTupA_ap, lstOf_ap, tupOf_t, tupOf_a, itemsOf_t, itemsOf_l, dSl_l, dSl_t, dSlL_ap, dCatL_ap, dIsN_ap, rng1_ap, rng2_ap, dRange_1, dRange_2, dRange3_ap, ownB_ap, ownT_ap, ownN_ap, eqI_ap, isC_y, il_int, il_bl, il_str, il_non, il_tup, il_lst, il_armD, il_ins, il_dic, il_ar, il_rig, Bool.false_eq_true, if_false, if_true, Res.bind_ok, Res.bind_bad, Res.out_ok, Res.out_bad, Res.calm_ok, List.map_cons, List.map_nil, List.length_cons, List.length_nil, Nat.reduceAdd, Nat.reduceSub, List.replicate, List.cons_append, List.nil_append, List.getElem?_cons_zero, List.getElem?_cons_succ, List.set_cons_succ, List.set_cons_zero, Bool.true_and, Bool.and_true, Bool.not_false, Bool.not_true, List.contains_nil, Option.bind_some, for_ap, lc_ap, Nat.reduceEqDiff, Nat.reduceLeDiff, Bool.false_xor, Bool.true_xor, and_self, decide_true, decide_false, List.lookup, List.all_cons, List.all_nil, List.contains_cons, Nat.reduceBEq, Bool.or_false, Bool.false_or, Bool.or_true, Bool.true_or, beq_self_eq_true, List.contains_nil, e_f_rest h hn, il_tr, il_st, fo_nil, fo_cons, nd_nil, nd_cons, eq_self]
  conv in loopG _ _ (upL 0 m) => unfold upL
  obtain ⟨ρ2, R2, h1, h2⟩ := loopG_range (T := dName 7) (n := m) (enc := fun k : Nat => D.int (0 + 1 + (k : Int)))
    (b := gSeq (gFor .f [5] [8] (gIt lstOf (gCall 2 f_L_steps (Pv.gCons (gVar 3) (Pv.gCons (gVar 7) Pv.gNil)))) (dName 8) (gSeq (gSet .f [5] 9 (gVar 4))
  (gSeq (gAsg .f [5] [4, 2] (dGTup 2 (dGCons (dName 4) (dGCons (dName 2) dGNil))) (gCall 3 f_L_step (Pv.gCons (gVar 0) (Pv.gCons (gVar 2) (Pv.gCons (gVar 8) Pv.gNil)))))
  (gSet .f [5] 6 (gOp dAdd (gVar 6) (gCB dAbs (Pv.gCons (gOp dSub (gVar 4) (gVar 9)) Pv.gNil)))))))
  (gSeq (gSet .f [5] 3 (gVar 7))
  (gApp .f [5] 5 (gVar 4))))
    (fun i ρ R => R = [] ∧ ∃ f u v w, ρ = [some (trD t), some (.lst (upL 0 m)), some (stD t i), some (.int i), some (.int (cv t.ar i)), some (.lst (cuL t.ar i)), some (.int f), u, v, w])
    (ρ := [some (trD t), some (.lst (upL 0 m)), some (stD t 0), some (.int 0), some (.int 0), some (.lst []), some (.int 0), none, none, none]) (R := []) ⟨rfl, 0, none, none, none, by rw [show ((0 : Nat) : Int) = 0 from rfl, z]; rfl⟩ (by
      rintro i ρ R hi ⟨rfl, f, u, v, w, rfl⟩
      refine ⟨_, rfl, ?_⟩
      have e1 : (0 : Int) + 1 + (i : Int) = (i : Int) + 1 := by omega
      have e2 : ((i : Int) + 1 - i).toNat = 1 := by omega
      have e3 : ((i + 1 : Nat) : Int) = (i : Int) + 1 := by omega
      simp only [calmF_ap, le_line, lt_line, var_ap, c_ap, op_ap, un_ap, b_ap, and_ap, or_ap, not_ap, if_ap, andV_ap, orV_ap, ch_ap, nil_ap, cons_ap, star_ap, tup_ap, lst_ap, arm_ap, cb_ap, noPart_ap, part_ap, sl_ap, slL_ap, call_ap, callL_ap, mk_ap, fld_ap, prop_ap, meth_ap, callI_ap, get2_ap, dnew_ap, it_ap, itA_ap, yes_ap, next_ap, seq_ap, set_ap, setO_ap, drop_ap, ret_ap, retN_ap, brk_ap, cnt_ap, never_ap, ifS_ap, aug_ap, app_ap, ext_ap, pop_ap, par_ap, asg_ap, dset_ap, stF_ap, fldL_ap, see_f, see_g, okM_f, okM_g, okR_f, okR_g, okO_f, okO_g, hide_nil, hide_cons, setAll_cons, setAll_nil, wipe_nil, wipe_cons, runB_ap, runL_ap, startL_ap, startD_ap, out1_nx, out1_rt, dName_ap, dGTup_ap, dGLst_ap, dGCons_ap, dGNil_ap, dAdd_ap, dSub_ap, dMul_ap, dFdiv_ap, dMod_ap, dLt_ap, dLe_ap, dGt_ap, dGe_ap, bOf_ap, dNeg_ap, dNot_ap, eqS_int, eqS_bl, eqS_str, dInt1_ap, dInt1_bl, dMax2_ap, dMin2_ap, dAbs_ap, dSum_ap, dAny_ap, dAll_ap, dLen_l, dLen_t, dLen_a, dIx_l, dIx_t, dIx_a, dTup_ap, dLst_ap, dArm_ap, dList_l, dList_t, dTupl_ap, dTupA_ap, lstOf_ap, tupOf_t, tupOf_a, itemsOf_t, itemsOf_l, dSl_l, dSl_t, dSlL_ap, dCatL_ap, dIsN_ap, rng1_ap, rng2_ap, dRange_1, dRange_2, dRange3_ap, ownB_ap, ownT_ap, ownN_ap, eqI_ap, isC_y, il_int, il_bl, il_str, il_non, il_tup, il_lst, il_armD, il_ins, il_dic, il_ar, il_rig, Bool.false_eq_true, if_false, if_true, Res.bind_ok, Res.bind_bad, Res.out_ok, Res.out_bad, Res.calm_ok, List.map_cons, List.map_nil, List.length_cons, List.length_nil, Nat.reduceAdd, Nat.reduceSub, List.replicate, List.cons_append, List.nil_append, List.getElem?_cons_zero, List.getElem?_cons_succ, List.set_cons_succ, List.set_cons_zero, Bool.true_and, Bool.and_true, Bool.not_false, Bool.not_true, List.contains_nil, Option.bind_some, for_ap, lc_ap, Nat.reduceEqDiff, Nat.reduceLeDiff, Bool.false_xor, Bool.true_xor, and_self, decide_true, decide_false, List.lookup, List.all_cons, List.all_nil, List.contains_cons, Nat.reduceBEq, Bool.or_false, Bool.false_or, Bool.or_true, Bool.true_or, beq_self_eq_true, List.contains_nil, il_tr, il_st, e1, e_steps_up (show (0 : Int) ≤ i by omega) (show (i : Int) ≤ i + 1 by omega) (by omega), e2, upL_1, loopG, e_f_step h hn (x := i) (y := (i : Int) + 1) (by omega) (.inr rfl) (by omega), at0, at1, cuL_len, decide_eq_true (hsz i hi), ← cuL_succ]
      exact ⟨_, _, .inl rfl, rfl, _, _, _, _, by rw [e3]⟩)
  obtain ⟨rfl, f, u, v, w, rfl⟩ := h2
  simp only [h1, calmF_ap, le_line, lt_line, var_ap, c_ap, op_ap, un_ap, b_ap, and_ap, or_ap, not_ap, if_ap, andV_ap, orV_ap, ch_ap, nil_ap, cons_ap, star_ap, tup_ap, lst_ap, arm_ap, cb_ap, noPart_ap, part_ap, sl_ap, slL_ap, call_ap, callL_ap, mk_ap, fld_ap, prop_ap, meth_ap, callI_ap, get2_ap, dnew_ap, it_ap, itA_ap, yes_ap, next_ap, seq_ap, set_ap, setO_ap, drop_ap, ret_ap, retN_ap, brk_ap, cnt_ap, never_ap, ifS_ap, aug_ap, app_ap, ext_ap, pop_ap, par_ap, asg_ap, dset_ap, stF_ap, fldL_ap, see_f, see_g, okM_f, okM_g, okR_f, okR_g, okO_f, okO_g, hide_nil, hide_cons, setAll_cons, setAll_nil, wipe_nil, wipe_cons, runB_ap, runL_ap, startL_ap, startD_ap, out1_nx, out1_rt, dName_ap, dGTup_ap, dGLst_ap, dGCons_ap, dGNil_ap, dAdd_ap, dSub_ap, dMul_ap, dFdiv_ap, dMod_ap, dLt_ap, dLe_ap, dGt_ap, dGe_ap, bOf_ap, dNeg_ap, dNot_ap, eqS_int, eqS_bl, eqS_str, dInt1_ap, dInt1_bl, dMax2_ap, dMin2_ap, dAbs_ap, dSum_ap, dAny_ap, dAll_ap, dLen_l, dLen_t, dLen_a, dIx_l, dIx_t, dIx_a, dTup_ap, dLst_ap, dArm_ap, dList_l, dList_t, dTupl_ap, dTupA_ap, lstOf_ap, tupOf_t, tupOf_a, itemsOf_t, itemsOf_l, dSl_l, dSl_t, dSlL_ap, dCatL_ap, dIsN_ap, rng1_ap, rng2_ap, dRange_1, dRange_2, dRange3_ap, ownB_ap, ownT_ap, ownN_ap, eqI_ap, isC_y, il_int, il_bl, il_str, il_non, il_tup, il_lst, il_armD, il_ins, il_dic, il_ar, il_rig, Bool.false_eq_true, if_false, if_true, Res.bind_ok, Res.bind_bad, Res.out_ok, Res.out_bad, Res.calm_ok, List.map_cons, List.map_nil, List.length_cons, List.length_nil, Nat.reduceAdd, Nat.reduceSub, List.replicate, List.cons_append, List.nil_append, List.getElem?_cons_zero, List.getElem?_cons_succ, List.set_cons_succ, List.set_cons_zero, Bool.true_and, Bool.and_true, Bool.not_false, Bool.not_true, List.contains_nil, Option.bind_some, for_ap, lc_ap, Nat.reduceEqDiff, Nat.reduceLeDiff, Bool.false_xor, Bool.true_xor, and_self, decide_true, decide_false, List.lookup, List.all_cons, List.all_nil, List.contains_cons, Nat.reduceBEq, Bool.or_false, Bool.false_or, Bool.or_true, Bool.true_or, beq_self_eq_true, List.contains_nil, il_st]
  exact ⟨_, rfl⟩
theorem sz9 : 9000000 < sizeLine := by decide
/-- a curve's heights from `0` to `m` -/
def cuF (a : Arms) (m : Nat) : List D := (List.range (m + 1)).map fun k : Nat => .int (cv a k)
theorem cuF_eq {a : Arms} (h : Canon a) (m : Nat) : D.int 0 :: cuL a m = cuF a m := by
  unfold cuF cuL
  rw [List.range_succ_eq_map, List.map_cons, List.map_map]
  rw [show ((0 : Nat) : Int) = 0 from rfl, h.zero]
  congr 1
theorem cuF_len (a : Arms) (m : Nat) : (cuF a m).length = m + 1 := by simp [cuF]
theorem cuF_get {a : Arms} {m i : Nat} (h : i ≤ m) : (cuF a m)[i]? = some (.int (cv a i)) := by
  unfold cuF; rw [List.getElem?_map, List.getElem?_range (by omega)]; rfl
theorem catL_ok {xs ys : List D} {R : Rs} (h : xs.length + ys.length ≤ sizeLine) : dCatL (.lst xs) (.lst ys) R = .ok (.lst (xs ++ ys)) R := by
  rw [dCatL_ap]; exact if_pos h
theorem lst_ok {xs : List D} {R : Rs} (h : xs.length ≤ sizeLine) : dLst xs R = .ok (.lst xs) R := by
  rw [dLst_ap]; exact if_pos h
theorem e_L_curve {n : Nat} {t : Tr} {R : Rs} (h : TOk n t) (hn : n ≤ 3) {x : Int} {m : Nat} (hx : x = m) (hm : x ≤ 100000) : f_L_curve [trD t, .int x] R = .ok (.lst (cuF t.ar m)) R := by
  have hU : (m : Int) ≤ Ub n := Int.le_trans (by omega) (show 100000 ≤ Ub n by match n, hn with | 0, _ => decide | 1, _ => decide | 2, _ => decide | 3, _ => decide)
  unfold f_L_curve
  refine pureF_ok ?_
  obtain ⟨f, e⟩ := e_path_up (R := []) h hn hU
  have hB : rgOkB 1 (x + 1) = true := by simp [rgOkB]; omega
  unfold m_L_curve
  have e2 : (x + 1 - 1).toNat = m := by omega
  have e3 : rngD 1 m = upL 0 m := by unfold rngD upL; rfl
  simp only [calmF_ap, le_line, lt_line, var_ap, c_ap, op_ap, un_ap, b_ap, and_ap, or_ap, not_ap, if_ap, andV_ap, orV_ap, ch_ap, nil_ap, cons_ap, star_ap, tup_ap, lst_ap, arm_ap, cb_ap, noPart_ap, part_ap, sl_ap, slL_ap, call_ap, callL_ap, mk_ap, fld_ap, prop_ap, meth_ap, callI_ap, get2_ap, dnew_ap, it_ap, itA_ap, yes_ap, next_ap, seq_ap, set_ap, setO_ap, drop_ap, ret_ap, retN_ap, brk_ap, cnt_ap, never_ap, ifS_ap, aug_ap, app_ap, ext_ap, pop_ap, par_ap, asg_ap, dset_ap, stF_ap, fldL_ap, see_f, see_g, okM_f, okM_g, okR_f, okR_g, okO_f, okO_g, hide_nil, hide_cons, setAll_cons, setAll_nil, wipe_nil, wipe_cons, runB_ap, runL_ap, startL_ap, startD_ap, out1_nx, out1_rt, dName_ap, dGTup_ap, dGLst_ap, dGCons_ap, dGNil_ap, dAdd_ap, dSub_ap, dMul_ap, dFdiv_ap, dMod_ap, dLt_ap, dLe_ap, dGt_ap, dGe_ap, bOf_ap, dNeg_ap, dNot_ap, eqS_int, eqS_bl, eqS_str, dInt1_ap, dInt1_bl, dMax2_ap, dMin2_ap, dAbs_ap, dSum_ap, dAny_ap, dAll_ap, dLen_l, dLen_t, dLen_a, dIx_l, dIx_t, dIx_a, dTup_ap, dLst_ap, dArm_ap, dList_l, dList_t, dTupl_ap, dTupA_ap, lstOf_ap, tupOf_t, tupOf_a, itemsOf_t, itemsOf_l, dSl_l, dSl_t, dSlL_ap, dCatL_ap, dIsN_ap, rng1_ap, rng2_ap, dRange_1, dRange_2, dRange3_ap, ownB_ap, ownT_ap, ownN_ap, eqI_ap, isC_y, il_int, il_bl, il_str, il_non, il_tup, il_lst, il_armD, il_ins, il_dic, il_ar, il_rig, Bool.false_eq_true, if_false, if_true, Res.bind_ok, Res.bind_bad, Res.out_ok, Res.out_bad, Res.calm_ok, List.map_cons, List.map_nil, List.length_cons, List.length_nil, Nat.reduceAdd, Nat.reduceSub, List.replicate, List.cons_append, List.nil_append, List.getElem?_cons_zero, List.getElem?_cons_succ, List.set_cons_succ, List.set_cons_zero, Bool.true_and, Bool.and_true, Bool.not_false, Bool.not_true, List.contains_nil, Option.bind_some, for_ap, lc_ap, Nat.reduceEqDiff, Nat.reduceLeDiff, Bool.false_xor, Bool.true_xor, and_self, decide_true, decide_false, List.lookup, List.all_cons, List.all_nil, List.contains_cons, Nat.reduceBEq, Bool.or_false, Bool.false_or, Bool.or_true, Bool.true_or, beq_self_eq_true, List.contains_nil, il_tr, hB, e2, e3]
  rw [e]
  have hl : [D.int 0].length + (cuL t.ar m).length ≤ sizeLine := by rw [cuL_len, List.length_singleton]; have := sz9; omega
  simp only [Res.bind_ok, dIx_t, at0]
  rw [catL_ok hl, List.cons_append, List.nil_append, cuF_eq (h.rb hn).1.c]
  rfl
/-! ### == of lists of numbers -/
def inD (xs : List Int) : List D := xs.map D.int
def inP (xs : List Int) : List PyData := xs.map PyData.int
theorem pdL_in : ∀ xs : List Int, pdL (inD xs) = some (inP xs)
  | [] => rfl
  | x :: xs => by
    show pdL (D.int x :: inD xs) = _
    simp only [pdL, D.pd, pdL_in xs]
    rfl
theorem pd_in (xs : List Int) : (D.lst (inD xs)).pd = some (.list (inP xs)) := by
  simp only [D.pd, pdL_in]
  rfl
theorem lay_in : ∀ xs : List Int, PyData.canLayAll0 (inP xs) = true
  | [] => rfl
  | x :: xs => by
    show (PyData.canLay0 (.int x) && PyData.canLayAll0 (inP xs)) = true
    rw [lay_in xs]; rfl
theorem depth_in : ∀ xs : List Int, PyData.depthAll (inP xs) ≤ 4
  | [] => by decide
  | x :: xs => by
    have := depth_in xs
    show PyData.depthAll (PyData.int x :: inP xs) ≤ 4
    simp only [PyData.depthAll, PyData.depth]
    omega
theorem shaped_in (xs : List Int) : SeqAt.shaped (.list (inP xs)) = true := by
  have h := depth_in xs
  have h2 := lay_in xs
  unfold SeqAt.shaped
  simp only [PyData.canLay0, h2, PyData.depth, Bool.true_and]
  exact decide_eq_true (by omega)
theorem eqv_in : ∀ xs ys : List Int, PyData.eqvAll (inP xs) (inP ys) = decide (xs = ys)
  | [], [] => rfl
  | [], _ :: _ => rfl
  | _ :: _, [] => rfl
  | x :: xs, y :: ys => by
    show (PyData.eqv (.int x) (.int y) && PyData.eqvAll (inP xs) (inP ys)) = _
    rw [eqv_in xs ys]
    have : PyData.eqv (.int x) (.int y) = (x == y) := rfl
    rw [this]
    by_cases h1 : x = y <;> simp [h1]
theorem eqD_in {n : Bool} {xs ys : List Int} {R : Rs} : dEqD n (.lst (inD xs)) (.lst (inD ys)) R = .ok (.bl (n ^^ decide (xs = ys))) R := by
  have e : PyData.eqv (.list (inP xs)) (.list (inP ys)) = decide (xs = ys) := eqv_in xs ys
  simp only [dEqD, pd_in, shaped_in, e, Bool.and_self, if_true]
theorem rises_upto {a : Arms} {M : Int} (hU : Upto M a) (h0 : 0 ≤ M) (h : ∀ k : Nat, (k : Int) < M + 3 → cv a k ≤ cv a ((k : Int) + 1)) : Rises a := by
  intro x hx
  have e1 := h M.toNat (by omega)
  rw [show (M.toNat : Int) = M by omega, cv_tail1 hU (Int.le_refl M)] at e1
  by_cases c : x < M + 3
  · have := h x.toNat (by omega)
    rwa [show (x.toNat : Int) = x by omega] at this
  · rw [cv_tail1 hU (by omega)]; omega
theorem e_L_is_forward {n : Nat} {t : Tr} {R : Rs} (h : TOk n t) (hn : n ≤ 3) : f_L_is_forward [trD t] R = .ok (.bl (nf t.ar 0)) R := by
  obtain ⟨hr, hu, h0, h1⟩ := h.rb hn
  have hM : Mb n ≤ 1000 := by match n, hn with | 0, _ => decide | 1, _ => decide | 2, _ => decide | 3, _ => decide
  unfold f_L_is_forward
  refine pureF_ok ?_
  unfold m_L_is_forward
  have ec := e_L_curve (R := []) h hn (x := t.tot + 3) (m := (t.tot + 3).toNat) (by omega) (by omega)
  simp only [calmF_ap, le_line, lt_line, var_ap, c_ap, op_ap, un_ap, b_ap, and_ap, or_ap, not_ap, if_ap, andV_ap, orV_ap, ch_ap, nil_ap, cons_ap, star_ap, tup_ap, lst_ap, arm_ap, cb_ap, noPart_ap, part_ap, sl_ap, slL_ap, call_ap, callL_ap, mk_ap, fld_ap, prop_ap, meth_ap, callI_ap, get2_ap, dnew_ap, it_ap, itA_ap, yes_ap, next_ap, seq_ap, set_ap, setO_ap, drop_ap, ret_ap, retN_ap, brk_ap, cnt_ap, never_ap, ifS_ap, aug_ap, app_ap, ext_ap, pop_ap, par_ap, asg_ap, dset_ap, stF_ap, fldL_ap, see_f, see_g, okM_f, okM_g, okR_f, okR_g, okO_f, okO_g, hide_nil, hide_cons, setAll_cons, setAll_nil, wipe_nil, wipe_cons, runB_ap, runL_ap, startL_ap, startD_ap, out1_nx, out1_rt, dName_ap, dGTup_ap, dGLst_ap, dGCons_ap, dGNil_ap, dAdd_ap, dSub_ap, dMul_ap, dFdiv_ap, dMod_ap, dLt_ap, dLe_ap, dGt_ap, dGe_ap, bOf_ap, dNeg_ap, dNot_ap, eqS_int, eqS_bl, eqS_str, dInt1_ap, dInt1_bl, dMax2_ap, dMin2_ap, dAbs_ap, dSum_ap, dAny_ap, dAll_ap, dLen_l, dLen_t, dLen_a, dIx_l, dIx_t, dIx_a, dTup_ap, dLst_ap, dArm_ap, dList_l, dList_t, dTupl_ap, dTupA_ap, lstOf_ap, tupOf_t, tupOf_a, itemsOf_t, itemsOf_l, dSl_l, dSl_t, dSlL_ap, dCatL_ap, dIsN_ap, rng1_ap, rng2_ap, dRange_1, dRange_2, dRange3_ap, ownB_ap, ownT_ap, ownN_ap, eqI_ap, isC_y, il_int, il_bl, il_str, il_non, il_tup, il_lst, il_armD, il_ins, il_dic, il_ar, il_rig, Bool.false_eq_true, if_false, if_true, Res.bind_ok, Res.bind_bad, Res.out_ok, Res.out_bad, Res.calm_ok, List.map_cons, List.map_nil, List.length_cons, List.length_nil, Nat.reduceAdd, Nat.reduceSub, List.replicate, List.cons_append, List.nil_append, List.getElem?_cons_zero, List.getElem?_cons_succ, List.set_cons_succ, List.set_cons_zero, Bool.true_and, Bool.and_true, Bool.not_false, Bool.not_true, List.contains_nil, Option.bind_some, for_ap, lc_ap, Nat.reduceEqDiff, Nat.reduceLeDiff, Bool.false_xor, Bool.true_xor, and_self, decide_true, decide_false, List.lookup, List.all_cons, List.all_nil, List.contains_cons, Nat.reduceBEq, Bool.or_false, Bool.false_or, Bool.or_true, Bool.true_or, beq_self_eq_true, List.contains_nil, il_tr, e_f_total h hn, ec, cuF_len]
  generalize em : (t.tot + 3).toNat = m
  have hB : inB (((m + 1 : Nat) : Int) - 1) = true := by simp [inB]; omega
  rw [if_pos hB, show (((m + 1 : Nat) : Int) - 1).toNat = m by omega]
  simp only [Res.bind_ok]
  unfold rngD
  rw [lcG_filter (T := dName 2) (fun k : Nat => D.int (0 + (k : Int))) (fun k : Nat => D.int (k : Int)) (fun k : Nat => decide (cv t.ar ((k : Int) + 1) < cv t.ar k)) (xs := List.range m) (fun k hk => by
    have hk := List.mem_range.mp hk
    refine ⟨_, rfl, ?_⟩
    have e1 : (0 : Int) + (k : Int) = k := by omega
    have e2 : (k : Int) + 1 = ((k + 1 : Nat) : Int) := by omega
    simp only [calmF_ap, le_line, lt_line, var_ap, c_ap, op_ap, un_ap, b_ap, and_ap, or_ap, not_ap, if_ap, andV_ap, orV_ap, ch_ap, nil_ap, cons_ap, star_ap, tup_ap, lst_ap, arm_ap, cb_ap, noPart_ap, part_ap, sl_ap, slL_ap, call_ap, callL_ap, mk_ap, fld_ap, prop_ap, meth_ap, callI_ap, get2_ap, dnew_ap, it_ap, itA_ap, yes_ap, next_ap, seq_ap, set_ap, setO_ap, drop_ap, ret_ap, retN_ap, brk_ap, cnt_ap, never_ap, ifS_ap, aug_ap, app_ap, ext_ap, pop_ap, par_ap, asg_ap, dset_ap, stF_ap, fldL_ap, see_f, see_g, okM_f, okM_g, okR_f, okR_g, okO_f, okO_g, hide_nil, hide_cons, setAll_cons, setAll_nil, wipe_nil, wipe_cons, runB_ap, runL_ap, startL_ap, startD_ap, out1_nx, out1_rt, dName_ap, dGTup_ap, dGLst_ap, dGCons_ap, dGNil_ap, dAdd_ap, dSub_ap, dMul_ap, dFdiv_ap, dMod_ap, dLt_ap, dLe_ap, dGt_ap, dGe_ap, bOf_ap, dNeg_ap, dNot_ap, eqS_int, eqS_bl, eqS_str, dInt1_ap, dInt1_bl, dMax2_ap, dMin2_ap, dAbs_ap, dSum_ap, dAny_ap, dAll_ap, dLen_l, dLen_t, dLen_a, dIx_l, dIx_t, dIx_a, dTup_ap, dLst_ap, dArm_ap, dList_l, dList_t, dTupl_ap, dTupA_ap, lstOf_ap, tupOf_t, tupOf_a, itemsOf_t, itemsOf_l, dSl_l, dSl_t, dSlL_ap, dCatL_ap, dIsN_ap, rng1_ap, rng2_ap, dRange_1, dRange_2, dRange3_ap, ownB_ap, ownT_ap, ownN_ap, eqI_ap, isC_y, il_int, il_bl, il_str, il_non, il_tup, il_lst, il_armD, il_ins, il_dic, il_ar, il_rig, Bool.false_eq_true, if_false, if_true, Res.bind_ok, Res.bind_bad, Res.out_ok, Res.out_bad, Res.calm_ok, List.map_cons, List.map_nil, List.length_cons, List.length_nil, Nat.reduceAdd, Nat.reduceSub, List.replicate, List.cons_append, List.nil_append, List.getElem?_cons_zero, List.getElem?_cons_succ, List.set_cons_succ, List.set_cons_zero, Bool.true_and, Bool.and_true, Bool.not_false, Bool.not_true, List.contains_nil, Option.bind_some, for_ap, lc_ap, Nat.reduceEqDiff, Nat.reduceLeDiff, Bool.false_xor, Bool.true_xor, and_self, decide_true, decide_false, List.lookup, List.all_cons, List.all_nil, List.contains_cons, Nat.reduceBEq, Bool.or_false, Bool.false_or, Bool.or_true, Bool.true_or, beq_self_eq_true, List.contains_nil, e1]
    rw [e2]
    simp only [atI_nat, cuF_get (show k + 1 ≤ m by omega), cuF_get (show k ≤ m by omega), calmF_ap, le_line, lt_line, var_ap, c_ap, op_ap, un_ap, b_ap, and_ap, or_ap, not_ap, if_ap, andV_ap, orV_ap, ch_ap, nil_ap, cons_ap, star_ap, tup_ap, lst_ap, arm_ap, cb_ap, noPart_ap, part_ap, sl_ap, slL_ap, call_ap, callL_ap, mk_ap, fld_ap, prop_ap, meth_ap, callI_ap, get2_ap, dnew_ap, it_ap, itA_ap, yes_ap, next_ap, seq_ap, set_ap, setO_ap, drop_ap, ret_ap, retN_ap, brk_ap, cnt_ap, never_ap, ifS_ap, aug_ap, app_ap, ext_ap, pop_ap, par_ap, asg_ap, dset_ap, stF_ap, fldL_ap, see_f, see_g, okM_f, okM_g, okR_f, okR_g, okO_f, okO_g, hide_nil, hide_cons, setAll_cons, setAll_nil, wipe_nil, wipe_cons, runB_ap, runL_ap, startL_ap, startD_ap, out1_nx, out1_rt, dName_ap, dGTup_ap, dGLst_ap, dGCons_ap, dGNil_ap, dAdd_ap, dSub_ap, dMul_ap, dFdiv_ap, dMod_ap, dLt_ap, dLe_ap, dGt_ap, dGe_ap, bOf_ap, dNeg_ap, dNot_ap, eqS_int, eqS_bl, eqS_str, dInt1_ap, dInt1_bl, dMax2_ap, dMin2_ap, dAbs_ap, dSum_ap, dAny_ap, dAll_ap, dLen_l, dLen_t, dLen_a, dIx_l, dIx_t, dIx_a, dTup_ap, dLst_ap, dArm_ap, dList_l, dList_t, dTupl_ap, dTupA_ap, lstOf_ap, tupOf_t, tupOf_a, itemsOf_t, itemsOf_l, dSl_l, dSl_t, dSlL_ap, dCatL_ap, dIsN_ap, rng1_ap, rng2_ap, dRange_1, dRange_2, dRange3_ap, ownB_ap, ownT_ap, ownN_ap, eqI_ap, isC_y, il_int, il_bl, il_str, il_non, il_tup, il_lst, il_armD, il_ins, il_dic, il_ar, il_rig, Bool.false_eq_true, if_false, if_true, Res.bind_ok, Res.bind_bad, Res.out_ok, Res.out_bad, Res.calm_ok, List.map_cons, List.map_nil, List.length_cons, List.length_nil, Nat.reduceAdd, Nat.reduceSub, List.replicate, List.cons_append, List.nil_append, List.getElem?_cons_zero, List.getElem?_cons_succ, List.set_cons_succ, List.set_cons_zero, Bool.true_and, Bool.and_true, Bool.not_false, Bool.not_true, List.contains_nil, Option.bind_some, for_ap, lc_ap, Nat.reduceEqDiff, Nat.reduceLeDiff, Bool.false_xor, Bool.true_xor, and_self, decide_true, decide_false, List.lookup, List.all_cons, List.all_nil, List.contains_cons, Nat.reduceBEq, Bool.or_false, Bool.false_or, Bool.or_true, Bool.true_or, beq_self_eq_true, List.contains_nil]
    exact ⟨trivial, fun _ => trivial⟩)]
  generalize eg : (List.range m).filter (fun k : Nat => decide (cv t.ar ((k : Int) + 1) < cv t.ar k)) = fl
  have hfl : fl.length ≤ m := by rw [← eg]; exact Nat.le_trans (List.length_filter_le _ _) (by simp)
  rw [show fl.map (fun k : Nat => D.int (k : Int)) = inD (fl.map fun k : Nat => (k : Int)) by simp [inD]]
  have hl : (inD (fl.map fun k : Nat => (k : Int))).length ≤ sizeLine := by simp only [inD, List.length_map]; have := sz9; omega
  rw [Res.calm_ok, Res.bind_ok, lst_ok hl, Res.bind_ok, show D.lst [] = D.lst (inD []) from rfl, eqD_in]
  rw [show decide (fl.map (fun k : Nat => (k : Int)) = []) = nf t.ar 0 from ?_]
  · simp only [calmF_ap, le_line, lt_line, var_ap, c_ap, op_ap, un_ap, b_ap, and_ap, or_ap, not_ap, if_ap, andV_ap, orV_ap, ch_ap, nil_ap, cons_ap, star_ap, tup_ap, lst_ap, arm_ap, cb_ap, noPart_ap, part_ap, sl_ap, slL_ap, call_ap, callL_ap, mk_ap, fld_ap, prop_ap, meth_ap, callI_ap, get2_ap, dnew_ap, it_ap, itA_ap, yes_ap, next_ap, seq_ap, set_ap, setO_ap, drop_ap, ret_ap, retN_ap, brk_ap, cnt_ap, never_ap, ifS_ap, aug_ap, app_ap, ext_ap, pop_ap, par_ap, asg_ap, dset_ap, stF_ap, fldL_ap, see_f, see_g, okM_f, okM_g, okR_f, okR_g, okO_f, okO_g, hide_nil, hide_cons, setAll_cons, setAll_nil, wipe_nil, wipe_cons, runB_ap, runL_ap, startL_ap, startD_ap, out1_nx, out1_rt, dName_ap, dGTup_ap, dGLst_ap, dGCons_ap, dGNil_ap, dAdd_ap, dSub_ap, dMul_ap, dFdiv_ap, dMod_ap, dLt_ap, dLe_ap, dGt_ap, dGe_ap, bOf_ap, dNeg_ap, dNot_ap, eqS_int, eqS_bl, eqS_str, dInt1_ap, dInt1_bl, dMax2_ap, dMin2_ap, dAbs_ap, dSum_ap, dAny_ap, dAll_ap, dLen_l, dLen_t, dLen_a, dIx_l, dIx_t, dIx_a, dTup_ap, dLst_ap, dArm_ap, dList_l, dList_t, dTupl_ap, dTupA_ap, lstOf_ap, tupOf_t, tupOf_a, itemsOf_t, itemsOf_l, dSl_l, dSl_t, dSlL_ap, dCatL_ap, dIsN_ap, rng1_ap, rng2_ap, dRange_1, dRange_2, dRange3_ap, ownB_ap, ownT_ap, ownN_ap, eqI_ap, isC_y, il_int, il_bl, il_str, il_non, il_tup, il_lst, il_armD, il_ins, il_dic, il_ar, il_rig, Bool.false_eq_true, if_false, if_true, Res.bind_ok, Res.bind_bad, Res.out_ok, Res.out_bad, Res.calm_ok, List.map_cons, List.map_nil, List.length_cons, List.length_nil, Nat.reduceAdd, Nat.reduceSub, List.replicate, List.cons_append, List.nil_append, List.getElem?_cons_zero, List.getElem?_cons_succ, List.set_cons_succ, List.set_cons_zero, Bool.true_and, Bool.and_true, Bool.not_false, Bool.not_true, List.contains_nil, Option.bind_some, for_ap, lc_ap, Nat.reduceEqDiff, Nat.reduceLeDiff, Bool.false_xor, Bool.true_xor, and_self, decide_true, decide_false, List.lookup, List.all_cons, List.all_nil, List.contains_cons, Nat.reduceBEq, Bool.or_false, Bool.false_or, Bool.or_true, Bool.true_or, beq_self_eq_true, List.contains_nil]
  · rw [Bool.eq_iff_iff, nf_rises hr.c, decide_eq_true_eq, List.map_eq_nil_iff, ← eg, List.filter_eq_nil_iff]
    constructor
    · intro hh
      refine rises_upto hu h0 fun k hk => ?_
      have := hh k (List.mem_range.mpr (by omega))
      simpa using this
    · intro hh k hk
      have := hh k (by omega)
      simpa using this
/-! ### the source, and trees drawn from it -/
def srcD (st : List Int) : D := .lst (st.map D.int)
theorem e_bel {st : List Int} {n : Int} (h : stOk st = true) (h0 : 0 < n) (h1 : n < 1073741824) : ∃ c st', belowF 0 [.int n] [srcD st] = .ok (.int c) [srcD st'] ∧ 0 ≤ c ∧ c < n ∧ stOk st' = true := by
  obtain ⟨a, b, c⟩ := below_ok h h0
  exact ⟨_, _, belowF_eq h h0 h1, a, b, c⟩
theorem e_tree : ∀ (k d : Nat) (st : List Int), stOk st = true → d < k → d ≤ 3 → ∃ t st', r_L_tree k 0 [.int d] [srcD st] = .ok (trD t) [srcD st'] ∧ TOk d t ∧ stOk st' = true
  | k + 1, d, st, hs, hk, hd => by
    obtain ⟨c, st1, e1, c0, c8, hs1⟩ := e_bel (n := 8) hs (by decide) (by decide)
    unfold r_L_tree m_L_tree
    simp only [calmF_ap, le_line, lt_line, var_ap, c_ap, op_ap, un_ap, b_ap, and_ap, or_ap, not_ap, if_ap, andV_ap, orV_ap, ch_ap, nil_ap, cons_ap, star_ap, tup_ap, lst_ap, arm_ap, cb_ap, noPart_ap, part_ap, sl_ap, slL_ap, call_ap, callL_ap, mk_ap, fld_ap, prop_ap, meth_ap, callI_ap, get2_ap, dnew_ap, it_ap, itA_ap, yes_ap, next_ap, seq_ap, set_ap, setO_ap, drop_ap, ret_ap, retN_ap, brk_ap, cnt_ap, never_ap, ifS_ap, aug_ap, app_ap, ext_ap, pop_ap, par_ap, asg_ap, dset_ap, stF_ap, fldL_ap, see_f, see_g, okM_f, okM_g, okR_f, okR_g, okO_f, okO_g, hide_nil, hide_cons, setAll_cons, setAll_nil, wipe_nil, wipe_cons, runB_ap, runL_ap, startL_ap, startD_ap, out1_nx, out1_rt, dName_ap, dGTup_ap, dGLst_ap, dGCons_ap, dGNil_ap, dAdd_ap, dSub_ap, dMul_ap, dFdiv_ap, dMod_ap, dLt_ap, dLe_ap, dGt_ap, dGe_ap, bOf_ap, dNeg_ap, dNot_ap, eqS_int, eqS_bl, eqS_str, dInt1_ap, dInt1_bl, dMax2_ap, dMin2_ap, dAbs_ap, dSum_ap, dAny_ap, dAll_ap, dLen_l, dLen_t, dLen_a, dIx_l, dIx_t, dIx_a, dTup_ap, dLst_ap, dArm_ap, dList_l, dList_t, dTupl_ap, dTupA_ap, lstOf_ap, tupOf_t, tupOf_a, itemsOf_t, itemsOf_l, dSl_l, dSl_t, dSlL_ap, dCatL_ap, dIsN_ap, rng1_ap, rng2_ap, dRange_1, dRange_2, dRange3_ap, ownB_ap, ownT_ap, ownN_ap, eqI_ap, isC_y, il_int, il_bl, il_str, il_non, il_tup, il_lst, il_armD, il_ins, il_dic, il_ar, il_rig, Bool.false_eq_true, if_false, if_true, Res.bind_ok, Res.bind_bad, Res.out_ok, Res.out_bad, Res.calm_ok, List.map_cons, List.map_nil, List.length_cons, List.length_nil, Nat.reduceAdd, Nat.reduceSub, List.replicate, List.cons_append, List.nil_append, List.getElem?_cons_zero, List.getElem?_cons_succ, List.set_cons_succ, List.set_cons_zero, Bool.true_and, Bool.and_true, Bool.not_false, Bool.not_true, List.contains_nil, Option.bind_some, for_ap, lc_ap, Nat.reduceEqDiff, Nat.reduceLeDiff, Bool.false_xor, Bool.true_xor, and_self, decide_true, decide_false, List.lookup, List.all_cons, List.all_nil, List.contains_cons, Nat.reduceBEq, Bool.or_false, Bool.false_or, Bool.or_true, Bool.true_or, beq_self_eq_true, List.contains_nil, e1]
    by_cases hz : d = 0 ∨ c = 0
    · obtain ⟨c2, st2, e2, a0, a2, hs2⟩ := e_bel (n := 2) hs1 (by decide) (by decide)
      have hm : ∃ m : Int, atI [D.int 3, D.int 7] c2 = some (.int m) ∧ 0 < m ∧ m ≤ 7 := by
        rcases (show c2 = 0 ∨ c2 = 1 by omega) with rfl | rfl
        · exact ⟨3, at0, by decide, by decide⟩
        · exact ⟨7, at1, by decide, by decide⟩
      obtain ⟨m, em, m0, m7⟩ := hm
      obtain ⟨s, st3, e3, s0, sm, hs3⟩ := e_bel (n := m) hs2 m0 (by omega)
      refine ⟨.rod s, st3, ?_, .rod s0 (by omega), hs3⟩
      by_cases hd0 : (d : Int) = 0
      · simp only [calmF_ap, le_line, lt_line, var_ap, c_ap, op_ap, un_ap, b_ap, and_ap, or_ap, not_ap, if_ap, andV_ap, orV_ap, ch_ap, nil_ap, cons_ap, star_ap, tup_ap, lst_ap, arm_ap, cb_ap, noPart_ap, part_ap, sl_ap, slL_ap, call_ap, callL_ap, mk_ap, fld_ap, prop_ap, meth_ap, callI_ap, get2_ap, dnew_ap, it_ap, itA_ap, yes_ap, next_ap, seq_ap, set_ap, setO_ap, drop_ap, ret_ap, retN_ap, brk_ap, cnt_ap, never_ap, ifS_ap, aug_ap, app_ap, ext_ap, pop_ap, par_ap, asg_ap, dset_ap, stF_ap, fldL_ap, see_f, see_g, okM_f, okM_g, okR_f, okR_g, okO_f, okO_g, hide_nil, hide_cons, setAll_cons, setAll_nil, wipe_nil, wipe_cons, runB_ap, runL_ap, startL_ap, startD_ap, out1_nx, out1_rt, dName_ap, dGTup_ap, dGLst_ap, dGCons_ap, dGNil_ap, dAdd_ap, dSub_ap, dMul_ap, dFdiv_ap, dMod_ap, dLt_ap, dLe_ap, dGt_ap, dGe_ap, bOf_ap, dNeg_ap, dNot_ap, eqS_int, eqS_bl, eqS_str, dInt1_ap, dInt1_bl, dMax2_ap, dMin2_ap, dAbs_ap, dSum_ap, dAny_ap, dAll_ap, dLen_l, dLen_t, dLen_a, dIx_l, dIx_t, dIx_a, dTup_ap, dLst_ap, dArm_ap, dList_l, dList_t, dTupl_ap, dTupA_ap, lstOf_ap, tupOf_t, tupOf_a, itemsOf_t, itemsOf_l, dSl_l, dSl_t, dSlL_ap, dCatL_ap, dIsN_ap, rng1_ap, rng2_ap, dRange_1, dRange_2, dRange3_ap, ownB_ap, ownT_ap, ownN_ap, eqI_ap, isC_y, il_int, il_bl, il_str, il_non, il_tup, il_lst, il_armD, il_ins, il_dic, il_ar, il_rig, Bool.false_eq_true, if_false, if_true, Res.bind_ok, Res.bind_bad, Res.out_ok, Res.out_bad, Res.calm_ok, List.map_cons, List.map_nil, List.length_cons, List.length_nil, Nat.reduceAdd, Nat.reduceSub, List.replicate, List.cons_append, List.nil_append, List.getElem?_cons_zero, List.getElem?_cons_succ, List.set_cons_succ, List.set_cons_zero, Bool.true_and, Bool.and_true, Bool.not_false, Bool.not_true, List.contains_nil, Option.bind_some, for_ap, lc_ap, Nat.reduceEqDiff, Nat.reduceLeDiff, Bool.false_xor, Bool.true_xor, and_self, decide_true, decide_false, List.lookup, List.all_cons, List.all_nil, List.contains_cons, Nat.reduceBEq, Bool.or_false, Bool.false_or, Bool.or_true, Bool.true_or, beq_self_eq_true, List.contains_nil, hd0, eq_self, e2, em, e3, trD]
      · have hc0 : c = 0 := by omega
        simp only [calmF_ap, le_line, lt_line, var_ap, c_ap, op_ap, un_ap, b_ap, and_ap, or_ap, not_ap, if_ap, andV_ap, orV_ap, ch_ap, nil_ap, cons_ap, star_ap, tup_ap, lst_ap, arm_ap, cb_ap, noPart_ap, part_ap, sl_ap, slL_ap, call_ap, callL_ap, mk_ap, fld_ap, prop_ap, meth_ap, callI_ap, get2_ap, dnew_ap, it_ap, itA_ap, yes_ap, next_ap, seq_ap, set_ap, setO_ap, drop_ap, ret_ap, retN_ap, brk_ap, cnt_ap, never_ap, ifS_ap, aug_ap, app_ap, ext_ap, pop_ap, par_ap, asg_ap, dset_ap, stF_ap, fldL_ap, see_f, see_g, okM_f, okM_g, okR_f, okR_g, okO_f, okO_g, hide_nil, hide_cons, setAll_cons, setAll_nil, wipe_nil, wipe_cons, runB_ap, runL_ap, startL_ap, startD_ap, out1_nx, out1_rt, dName_ap, dGTup_ap, dGLst_ap, dGCons_ap, dGNil_ap, dAdd_ap, dSub_ap, dMul_ap, dFdiv_ap, dMod_ap, dLt_ap, dLe_ap, dGt_ap, dGe_ap, bOf_ap, dNeg_ap, dNot_ap, eqS_int, eqS_bl, eqS_str, dInt1_ap, dInt1_bl, dMax2_ap, dMin2_ap, dAbs_ap, dSum_ap, dAny_ap, dAll_ap, dLen_l, dLen_t, dLen_a, dIx_l, dIx_t, dIx_a, dTup_ap, dLst_ap, dArm_ap, dList_l, dList_t, dTupl_ap, dTupA_ap, lstOf_ap, tupOf_t, tupOf_a, itemsOf_t, itemsOf_l, dSl_l, dSl_t, dSlL_ap, dCatL_ap, dIsN_ap, rng1_ap, rng2_ap, dRange_1, dRange_2, dRange3_ap, ownB_ap, ownT_ap, ownN_ap, eqI_ap, isC_y, il_int, il_bl, il_str, il_non, il_tup, il_lst, il_armD, il_ins, il_dic, il_ar, il_rig, Bool.false_eq_true, if_false, if_true, Res.bind_ok, Res.bind_bad, Res.out_ok, Res.out_bad, Res.calm_ok, List.map_cons, List.map_nil, List.length_cons, List.length_nil, Nat.reduceAdd, Nat.reduceSub, List.replicate, List.cons_append, List.nil_append, List.getElem?_cons_zero, List.getElem?_cons_succ, List.set_cons_succ, List.set_cons_zero, Bool.true_and, Bool.and_true, Bool.not_false, Bool.not_true, List.contains_nil, Option.bind_some, for_ap, lc_ap, Nat.reduceEqDiff, Nat.reduceLeDiff, Bool.false_xor, Bool.true_xor, and_self, decide_true, decide_false, List.lookup, List.all_cons, List.all_nil, List.contains_cons, Nat.reduceBEq, Bool.or_false, Bool.false_or, Bool.or_true, Bool.true_or, beq_self_eq_true, List.contains_nil, hd0, hc0, eq_self, e2, em, e3, trD]
    · have hd0 : ¬ (d : Int) = 0 := by omega
      have hc0 : ¬ c = 0 := by omega
      obtain ⟨d, rfl⟩ : ∃ d', d = d' + 1 := ⟨d - 1, by omega⟩
      have ed : ((d + 1 : Nat) : Int) - 1 = d := by omega
      obtain ⟨t, st2, e2, ht, hs2⟩ := e_tree k d st1 hs1 (by omega) (by omega)
      simp only [calmF_ap, le_line, lt_line, var_ap, c_ap, op_ap, un_ap, b_ap, and_ap, or_ap, not_ap, if_ap, andV_ap, orV_ap, ch_ap, nil_ap, cons_ap, star_ap, tup_ap, lst_ap, arm_ap, cb_ap, noPart_ap, part_ap, sl_ap, slL_ap, call_ap, callL_ap, mk_ap, fld_ap, prop_ap, meth_ap, callI_ap, get2_ap, dnew_ap, it_ap, itA_ap, yes_ap, next_ap, seq_ap, set_ap, setO_ap, drop_ap, ret_ap, retN_ap, brk_ap, cnt_ap, never_ap, ifS_ap, aug_ap, app_ap, ext_ap, pop_ap, par_ap, asg_ap, dset_ap, stF_ap, fldL_ap, see_f, see_g, okM_f, okM_g, okR_f, okR_g, okO_f, okO_g, hide_nil, hide_cons, setAll_cons, setAll_nil, wipe_nil, wipe_cons, runB_ap, runL_ap, startL_ap, startD_ap, out1_nx, out1_rt, dName_ap, dGTup_ap, dGLst_ap, dGCons_ap, dGNil_ap, dAdd_ap, dSub_ap, dMul_ap, dFdiv_ap, dMod_ap, dLt_ap, dLe_ap, dGt_ap, dGe_ap, bOf_ap, dNeg_ap, dNot_ap, eqS_int, eqS_bl, eqS_str, dInt1_ap, dInt1_bl, dMax2_ap, dMin2_ap, dAbs_ap, dSum_ap, dAny_ap, dAll_ap, dLen_l, dLen_t, dLen_a, dIx_l, dIx_t, dIx_a, dTup_ap, dLst_ap, dArm_ap, dList_l, dList_t, dTupl_ap, dTupA_ap, lstOf_ap, tupOf_t, tupOf_a, itemsOf_t, itemsOf_l, dSl_l, dSl_t, dSlL_ap, dCatL_ap, dIsN_ap, rng1_ap, rng2_ap, dRange_1, dRange_2, dRange3_ap, ownB_ap, ownT_ap, ownN_ap, eqI_ap, isC_y, il_int, il_bl, il_str, il_non, il_tup, il_lst, il_armD, il_ins, il_dic, il_ar, il_rig, Bool.false_eq_true, if_false, if_true, Res.bind_ok, Res.bind_bad, Res.out_ok, Res.out_bad, Res.calm_ok, List.map_cons, List.map_nil, List.length_cons, List.length_nil, Nat.reduceAdd, Nat.reduceSub, List.replicate, List.cons_append, List.nil_append, List.getElem?_cons_zero, List.getElem?_cons_succ, List.set_cons_succ, List.set_cons_zero, Bool.true_and, Bool.and_true, Bool.not_false, Bool.not_true, List.contains_nil, Option.bind_some, for_ap, lc_ap, Nat.reduceEqDiff, Nat.reduceLeDiff, Bool.false_xor, Bool.true_xor, and_self, decide_true, decide_false, List.lookup, List.all_cons, List.all_nil, List.contains_cons, Nat.reduceBEq, Bool.or_false, Bool.false_or, Bool.or_true, Bool.true_or, beq_self_eq_true, List.contains_nil, hd0, hc0, ed, e2, il_tr]
      by_cases h1 : c = 1
      · obtain ⟨m, st3, e3, m0, m7, hs3⟩ := e_bel (n := 7) hs2 (by decide) (by decide)
        refine ⟨.mul t (m - 3), st3, ?_, .mul ht (by omega) (by omega), hs3⟩
        simp only [calmF_ap, le_line, lt_line, var_ap, c_ap, op_ap, un_ap, b_ap, and_ap, or_ap, not_ap, if_ap, andV_ap, orV_ap, ch_ap, nil_ap, cons_ap, star_ap, tup_ap, lst_ap, arm_ap, cb_ap, noPart_ap, part_ap, sl_ap, slL_ap, call_ap, callL_ap, mk_ap, fld_ap, prop_ap, meth_ap, callI_ap, get2_ap, dnew_ap, it_ap, itA_ap, yes_ap, next_ap, seq_ap, set_ap, setO_ap, drop_ap, ret_ap, retN_ap, brk_ap, cnt_ap, never_ap, ifS_ap, aug_ap, app_ap, ext_ap, pop_ap, par_ap, asg_ap, dset_ap, stF_ap, fldL_ap, see_f, see_g, okM_f, okM_g, okR_f, okR_g, okO_f, okO_g, hide_nil, hide_cons, setAll_cons, setAll_nil, wipe_nil, wipe_cons, runB_ap, runL_ap, startL_ap, startD_ap, out1_nx, out1_rt, dName_ap, dGTup_ap, dGLst_ap, dGCons_ap, dGNil_ap, dAdd_ap, dSub_ap, dMul_ap, dFdiv_ap, dMod_ap, dLt_ap, dLe_ap, dGt_ap, dGe_ap, bOf_ap, dNeg_ap, dNot_ap, eqS_int, eqS_bl, eqS_str, dInt1_ap, dInt1_bl, dMax2_ap, dMin2_ap, dAbs_ap, dSum_ap, dAny_ap, dAll_ap, dLen_l, dLen_t, dLen_a, dIx_l, dIx_t, dIx_a, dTup_ap, dLst_ap, dArm_ap, dList_l, dList_t, dTupl_ap, dTupA_ap, lstOf_ap, tupOf_t, tupOf_a, itemsOf_t, itemsOf_l, dSl_l, dSl_t, dSlL_ap, dCatL_ap, dIsN_ap, rng1_ap, rng2_ap, dRange_1, dRange_2, dRange3_ap, ownB_ap, ownT_ap, ownN_ap, eqI_ap, isC_y, il_int, il_bl, il_str, il_non, il_tup, il_lst, il_armD, il_ins, il_dic, il_ar, il_rig, Bool.false_eq_true, if_false, if_true, Res.bind_ok, Res.bind_bad, Res.out_ok, Res.out_bad, Res.calm_ok, List.map_cons, List.map_nil, List.length_cons, List.length_nil, Nat.reduceAdd, Nat.reduceSub, List.replicate, List.cons_append, List.nil_append, List.getElem?_cons_zero, List.getElem?_cons_succ, List.set_cons_succ, List.set_cons_zero, Bool.true_and, Bool.and_true, Bool.not_false, Bool.not_true, List.contains_nil, Option.bind_some, for_ap, lc_ap, Nat.reduceEqDiff, Nat.reduceLeDiff, Bool.false_xor, Bool.true_xor, and_self, decide_true, decide_false, List.lookup, List.all_cons, List.all_nil, List.contains_cons, Nat.reduceBEq, Bool.or_false, Bool.false_or, Bool.or_true, Bool.true_or, beq_self_eq_true, List.contains_nil, h1, eq_self, e3, trD, il_tr]
      by_cases h2 : c = 2
      · refine ⟨.neg t, st2, ?_, .neg ht, hs2⟩
        have h3 : ¬ (2 : Int) = 1 := by decide
        simp only [calmF_ap, le_line, lt_line, var_ap, c_ap, op_ap, un_ap, b_ap, and_ap, or_ap, not_ap, if_ap, andV_ap, orV_ap, ch_ap, nil_ap, cons_ap, star_ap, tup_ap, lst_ap, arm_ap, cb_ap, noPart_ap, part_ap, sl_ap, slL_ap, call_ap, callL_ap, mk_ap, fld_ap, prop_ap, meth_ap, callI_ap, get2_ap, dnew_ap, it_ap, itA_ap, yes_ap, next_ap, seq_ap, set_ap, setO_ap, drop_ap, ret_ap, retN_ap, brk_ap, cnt_ap, never_ap, ifS_ap, aug_ap, app_ap, ext_ap, pop_ap, par_ap, asg_ap, dset_ap, stF_ap, fldL_ap, see_f, see_g, okM_f, okM_g, okR_f, okR_g, okO_f, okO_g, hide_nil, hide_cons, setAll_cons, setAll_nil, wipe_nil, wipe_cons, runB_ap, runL_ap, startL_ap, startD_ap, out1_nx, out1_rt, dName_ap, dGTup_ap, dGLst_ap, dGCons_ap, dGNil_ap, dAdd_ap, dSub_ap, dMul_ap, dFdiv_ap, dMod_ap, dLt_ap, dLe_ap, dGt_ap, dGe_ap, bOf_ap, dNeg_ap, dNot_ap, eqS_int, eqS_bl, eqS_str, dInt1_ap, dInt1_bl, dMax2_ap, dMin2_ap, dAbs_ap, dSum_ap, dAny_ap, dAll_ap, dLen_l, dLen_t, dLen_a, dIx_l, dIx_t, dIx_a, dTup_ap, dLst_ap, dArm_ap, dList_l, dList_t, dTupl_ap, dTupA_ap, lstOf_ap, tupOf_t, tupOf_a, itemsOf_t, itemsOf_l, dSl_l, dSl_t, dSlL_ap, dCatL_ap, dIsN_ap, rng1_ap, rng2_ap, dRange_1, dRange_2, dRange3_ap, ownB_ap, ownT_ap, ownN_ap, eqI_ap, isC_y, il_int, il_bl, il_str, il_non, il_tup, il_lst, il_armD, il_ins, il_dic, il_ar, il_rig, Bool.false_eq_true, if_false, if_true, Res.bind_ok, Res.bind_bad, Res.out_ok, Res.out_bad, Res.calm_ok, List.map_cons, List.map_nil, List.length_cons, List.length_nil, Nat.reduceAdd, Nat.reduceSub, List.replicate, List.cons_append, List.nil_append, List.getElem?_cons_zero, List.getElem?_cons_succ, List.set_cons_succ, List.set_cons_zero, Bool.true_and, Bool.and_true, Bool.not_false, Bool.not_true, List.contains_nil, Option.bind_some, for_ap, lc_ap, Nat.reduceEqDiff, Nat.reduceLeDiff, Bool.false_xor, Bool.true_xor, and_self, decide_true, decide_false, List.lookup, List.all_cons, List.all_nil, List.contains_cons, Nat.reduceBEq, Bool.or_false, Bool.false_or, Bool.or_true, Bool.true_or, beq_self_eq_true, List.contains_nil, trD, il_tr, h2, h3, eq_self]
      obtain ⟨u, st3, e3, hu, hs3⟩ := e_tree k d st2 hs2 (by omega) (by omega)
      simp only [calmF_ap, le_line, lt_line, var_ap, c_ap, op_ap, un_ap, b_ap, and_ap, or_ap, not_ap, if_ap, andV_ap, orV_ap, ch_ap, nil_ap, cons_ap, star_ap, tup_ap, lst_ap, arm_ap, cb_ap, noPart_ap, part_ap, sl_ap, slL_ap, call_ap, callL_ap, mk_ap, fld_ap, prop_ap, meth_ap, callI_ap, get2_ap, dnew_ap, it_ap, itA_ap, yes_ap, next_ap, seq_ap, set_ap, setO_ap, drop_ap, ret_ap, retN_ap, brk_ap, cnt_ap, never_ap, ifS_ap, aug_ap, app_ap, ext_ap, pop_ap, par_ap, asg_ap, dset_ap, stF_ap, fldL_ap, see_f, see_g, okM_f, okM_g, okR_f, okR_g, okO_f, okO_g, hide_nil, hide_cons, setAll_cons, setAll_nil, wipe_nil, wipe_cons, runB_ap, runL_ap, startL_ap, startD_ap, out1_nx, out1_rt, dName_ap, dGTup_ap, dGLst_ap, dGCons_ap, dGNil_ap, dAdd_ap, dSub_ap, dMul_ap, dFdiv_ap, dMod_ap, dLt_ap, dLe_ap, dGt_ap, dGe_ap, bOf_ap, dNeg_ap, dNot_ap, eqS_int, eqS_bl, eqS_str, dInt1_ap, dInt1_bl, dMax2_ap, dMin2_ap, dAbs_ap, dSum_ap, dAny_ap, dAll_ap, dLen_l, dLen_t, dLen_a, dIx_l, dIx_t, dIx_a, dTup_ap, dLst_ap, dArm_ap, dList_l, dList_t, dTupl_ap, dTupA_ap, lstOf_ap, tupOf_t, tupOf_a, itemsOf_t, itemsOf_l, dSl_l, dSl_t, dSlL_ap, dCatL_ap, dIsN_ap, rng1_ap, rng2_ap, dRange_1, dRange_2, dRange3_ap, ownB_ap, ownT_ap, ownN_ap, eqI_ap, isC_y, il_int, il_bl, il_str, il_non, il_tup, il_lst, il_armD, il_ins, il_dic, il_ar, il_rig, Bool.false_eq_true, if_false, if_true, Res.bind_ok, Res.bind_bad, Res.out_ok, Res.out_bad, Res.calm_ok, List.map_cons, List.map_nil, List.length_cons, List.length_nil, Nat.reduceAdd, Nat.reduceSub, List.replicate, List.cons_append, List.nil_append, List.getElem?_cons_zero, List.getElem?_cons_succ, List.set_cons_succ, List.set_cons_zero, Bool.true_and, Bool.and_true, Bool.not_false, Bool.not_true, List.contains_nil, Option.bind_some, for_ap, lc_ap, Nat.reduceEqDiff, Nat.reduceLeDiff, Bool.false_xor, Bool.true_xor, and_self, decide_true, decide_false, List.lookup, List.all_cons, List.all_nil, List.contains_cons, Nat.reduceBEq, Bool.or_false, Bool.false_or, Bool.or_true, Bool.true_or, beq_self_eq_true, List.contains_nil, h1, h2, ed, e3, il_tr]
      by_cases h3 : c < 5
      · refine ⟨.add t u, st3, ?_, .add ht hu, hs3⟩
        simp only [calmF_ap, le_line, lt_line, var_ap, c_ap, op_ap, un_ap, b_ap, and_ap, or_ap, not_ap, if_ap, andV_ap, orV_ap, ch_ap, nil_ap, cons_ap, star_ap, tup_ap, lst_ap, arm_ap, cb_ap, noPart_ap, part_ap, sl_ap, slL_ap, call_ap, callL_ap, mk_ap, fld_ap, prop_ap, meth_ap, callI_ap, get2_ap, dnew_ap, it_ap, itA_ap, yes_ap, next_ap, seq_ap, set_ap, setO_ap, drop_ap, ret_ap, retN_ap, brk_ap, cnt_ap, never_ap, ifS_ap, aug_ap, app_ap, ext_ap, pop_ap, par_ap, asg_ap, dset_ap, stF_ap, fldL_ap, see_f, see_g, okM_f, okM_g, okR_f, okR_g, okO_f, okO_g, hide_nil, hide_cons, setAll_cons, setAll_nil, wipe_nil, wipe_cons, runB_ap, runL_ap, startL_ap, startD_ap, out1_nx, out1_rt, dName_ap, dGTup_ap, dGLst_ap, dGCons_ap, dGNil_ap, dAdd_ap, dSub_ap, dMul_ap, dFdiv_ap, dMod_ap, dLt_ap, dLe_ap, dGt_ap, dGe_ap, bOf_ap, dNeg_ap, dNot_ap, eqS_int, eqS_bl, eqS_str, dInt1_ap, dInt1_bl, dMax2_ap, dMin2_ap, dAbs_ap, dSum_ap, dAny_ap, dAll_ap, dLen_l, dLen_t, dLen_a, dIx_l, dIx_t, dIx_a, dTup_ap, dLst_ap, dArm_ap, dList_l, dList_t, dTupl_ap, dTupA_ap, lstOf_ap, tupOf_t, tupOf_a, itemsOf_t, itemsOf_l, dSl_l, dSl_t, dSlL_ap, dCatL_ap, dIsN_ap, rng1_ap, rng2_ap, dRange_1, dRange_2, dRange3_ap, ownB_ap, ownT_ap, ownN_ap, eqI_ap, isC_y, il_int, il_bl, il_str, il_non, il_tup, il_lst, il_armD, il_ins, il_dic, il_ar, il_rig, Bool.false_eq_true, if_false, if_true, Res.bind_ok, Res.bind_bad, Res.out_ok, Res.out_bad, Res.calm_ok, List.map_cons, List.map_nil, List.length_cons, List.length_nil, Nat.reduceAdd, Nat.reduceSub, List.replicate, List.cons_append, List.nil_append, List.getElem?_cons_zero, List.getElem?_cons_succ, List.set_cons_succ, List.set_cons_zero, Bool.true_and, Bool.and_true, Bool.not_false, Bool.not_true, List.contains_nil, Option.bind_some, for_ap, lc_ap, Nat.reduceEqDiff, Nat.reduceLeDiff, Bool.false_xor, Bool.true_xor, and_self, decide_true, decide_false, List.lookup, List.all_cons, List.all_nil, List.contains_cons, Nat.reduceBEq, Bool.or_false, Bool.false_or, Bool.or_true, Bool.true_or, beq_self_eq_true, List.contains_nil, trD, il_tr, h3]
      by_cases h4 : c < 6
      · refine ⟨.sub t u, st3, ?_, .sub ht hu, hs3⟩
        simp only [calmF_ap, le_line, lt_line, var_ap, c_ap, op_ap, un_ap, b_ap, and_ap, or_ap, not_ap, if_ap, andV_ap, orV_ap, ch_ap, nil_ap, cons_ap, star_ap, tup_ap, lst_ap, arm_ap, cb_ap, noPart_ap, part_ap, sl_ap, slL_ap, call_ap, callL_ap, mk_ap, fld_ap, prop_ap, meth_ap, callI_ap, get2_ap, dnew_ap, it_ap, itA_ap, yes_ap, next_ap, seq_ap, set_ap, setO_ap, drop_ap, ret_ap, retN_ap, brk_ap, cnt_ap, never_ap, ifS_ap, aug_ap, app_ap, ext_ap, pop_ap, par_ap, asg_ap, dset_ap, stF_ap, fldL_ap, see_f, see_g, okM_f, okM_g, okR_f, okR_g, okO_f, okO_g, hide_nil, hide_cons, setAll_cons, setAll_nil, wipe_nil, wipe_cons, runB_ap, runL_ap, startL_ap, startD_ap, out1_nx, out1_rt, dName_ap, dGTup_ap, dGLst_ap, dGCons_ap, dGNil_ap, dAdd_ap, dSub_ap, dMul_ap, dFdiv_ap, dMod_ap, dLt_ap, dLe_ap, dGt_ap, dGe_ap, bOf_ap, dNeg_ap, dNot_ap, eqS_int, eqS_bl, eqS_str, dInt1_ap, dInt1_bl, dMax2_ap, dMin2_ap, dAbs_ap, dSum_ap, dAny_ap, dAll_ap, dLen_l, dLen_t, dLen_a, dIx_l, dIx_t, dIx_a, dTup_ap, dLst_ap, dArm_ap, dList_l, dList_t, dTupl_ap, dTupA_ap, lstOf_ap, tupOf_t, tupOf_a, itemsOf_t, itemsOf_l, dSl_l, dSl_t, dSlL_ap, dCatL_ap, dIsN_ap, rng1_ap, rng2_ap, dRange_1, dRange_2, dRange3_ap, ownB_ap, ownT_ap, ownN_ap, eqI_ap, isC_y, il_int, il_bl, il_str, il_non, il_tup, il_lst, il_armD, il_ins, il_dic, il_ar, il_rig, Bool.false_eq_true, if_false, if_true, Res.bind_ok, Res.bind_bad, Res.out_ok, Res.out_bad, Res.calm_ok, List.map_cons, List.map_nil, List.length_cons, List.length_nil, Nat.reduceAdd, Nat.reduceSub, List.replicate, List.cons_append, List.nil_append, List.getElem?_cons_zero, List.getElem?_cons_succ, List.set_cons_succ, List.set_cons_zero, Bool.true_and, Bool.and_true, Bool.not_false, Bool.not_true, List.contains_nil, Option.bind_some, for_ap, lc_ap, Nat.reduceEqDiff, Nat.reduceLeDiff, Bool.false_xor, Bool.true_xor, and_self, decide_true, decide_false, List.lookup, List.all_cons, List.all_nil, List.contains_cons, Nat.reduceBEq, Bool.or_false, Bool.false_or, Bool.or_true, Bool.true_or, beq_self_eq_true, List.contains_nil, trD, il_tr, h3, h4]
      by_cases h5 : nf t.ar 0 = true
      · refine ⟨.chn t u, st3, ?_, .chn ht hu ((nf_rises (ht.rb (by omega)).1.c).mp h5), hs3⟩
        simp only [calmF_ap, le_line, lt_line, var_ap, c_ap, op_ap, un_ap, b_ap, and_ap, or_ap, not_ap, if_ap, andV_ap, orV_ap, ch_ap, nil_ap, cons_ap, star_ap, tup_ap, lst_ap, arm_ap, cb_ap, noPart_ap, part_ap, sl_ap, slL_ap, call_ap, callL_ap, mk_ap, fld_ap, prop_ap, meth_ap, callI_ap, get2_ap, dnew_ap, it_ap, itA_ap, yes_ap, next_ap, seq_ap, set_ap, setO_ap, drop_ap, ret_ap, retN_ap, brk_ap, cnt_ap, never_ap, ifS_ap, aug_ap, app_ap, ext_ap, pop_ap, par_ap, asg_ap, dset_ap, stF_ap, fldL_ap, see_f, see_g, okM_f, okM_g, okR_f, okR_g, okO_f, okO_g, hide_nil, hide_cons, setAll_cons, setAll_nil, wipe_nil, wipe_cons, runB_ap, runL_ap, startL_ap, startD_ap, out1_nx, out1_rt, dName_ap, dGTup_ap, dGLst_ap, dGCons_ap, dGNil_ap, dAdd_ap, dSub_ap, dMul_ap, dFdiv_ap, dMod_ap, dLt_ap, dLe_ap, dGt_ap, dGe_ap, bOf_ap, dNeg_ap, dNot_ap, eqS_int, eqS_bl, eqS_str, dInt1_ap, dInt1_bl, dMax2_ap, dMin2_ap, dAbs_ap, dSum_ap, dAny_ap, dAll_ap, dLen_l, dLen_t, dLen_a, dIx_l, dIx_t, dIx_a, dTup_ap, dLst_ap, dArm_ap, dList_l, dList_t, dTupl_ap, dTupA_ap, lstOf_ap, tupOf_t, tupOf_a, itemsOf_t, itemsOf_l, dSl_l, dSl_t, dSlL_ap, dCatL_ap, dIsN_ap, rng1_ap, rng2_ap, dRange_1, dRange_2, dRange3_ap, ownB_ap, ownT_ap, ownN_ap, eqI_ap, isC_y, il_int, il_bl, il_str, il_non, il_tup, il_lst, il_armD, il_ins, il_dic, il_ar, il_rig, Bool.false_eq_true, if_false, if_true, Res.bind_ok, Res.bind_bad, Res.out_ok, Res.out_bad, Res.calm_ok, List.map_cons, List.map_nil, List.length_cons, List.length_nil, Nat.reduceAdd, Nat.reduceSub, List.replicate, List.cons_append, List.nil_append, List.getElem?_cons_zero, List.getElem?_cons_succ, List.set_cons_succ, List.set_cons_zero, Bool.true_and, Bool.and_true, Bool.not_false, Bool.not_true, List.contains_nil, Option.bind_some, for_ap, lc_ap, Nat.reduceEqDiff, Nat.reduceLeDiff, Bool.false_xor, Bool.true_xor, and_self, decide_true, decide_false, List.lookup, List.all_cons, List.all_nil, List.contains_cons, Nat.reduceBEq, Bool.or_false, Bool.false_or, Bool.or_true, Bool.true_or, beq_self_eq_true, List.contains_nil, trD, il_tr, h3, h4, e_L_is_forward ht (show d ≤ 3 by omega), h5]
      · refine ⟨.sub t u, st3, ?_, .sub ht hu, hs3⟩
        simp only [calmF_ap, le_line, lt_line, var_ap, c_ap, op_ap, un_ap, b_ap, and_ap, or_ap, not_ap, if_ap, andV_ap, orV_ap, ch_ap, nil_ap, cons_ap, star_ap, tup_ap, lst_ap, arm_ap, cb_ap, noPart_ap, part_ap, sl_ap, slL_ap, call_ap, callL_ap, mk_ap, fld_ap, prop_ap, meth_ap, callI_ap, get2_ap, dnew_ap, it_ap, itA_ap, yes_ap, next_ap, seq_ap, set_ap, setO_ap, drop_ap, ret_ap, retN_ap, brk_ap, cnt_ap, never_ap, ifS_ap, aug_ap, app_ap, ext_ap, pop_ap, par_ap, asg_ap, dset_ap, stF_ap, fldL_ap, see_f, see_g, okM_f, okM_g, okR_f, okR_g, okO_f, okO_g, hide_nil, hide_cons, setAll_cons, setAll_nil, wipe_nil, wipe_cons, runB_ap, runL_ap, startL_ap, startD_ap, out1_nx, out1_rt, dName_ap, dGTup_ap, dGLst_ap, dGCons_ap, dGNil_ap, dAdd_ap, dSub_ap, dMul_ap, dFdiv_ap, dMod_ap, dLt_ap, dLe_ap, dGt_ap, dGe_ap, bOf_ap, dNeg_ap, dNot_ap, eqS_int, eqS_bl, eqS_str, dInt1_ap, dInt1_bl, dMax2_ap, dMin2_ap, dAbs_ap, dSum_ap, dAny_ap, dAll_ap, dLen_l, dLen_t, dLen_a, dIx_l, dIx_t, dIx_a, dTup_ap, dLst_ap, dArm_ap, dList_l, dList_t, dTupl_ap, dTupA_ap, lstOf_ap, tupOf_t, tupOf_a, itemsOf_t, itemsOf_l, dSl_l, dSl_t, dSlL_ap, dCatL_ap, dIsN_ap, rng1_ap, rng2_ap, dRange_1, dRange_2, dRange3_ap, ownB_ap, ownT_ap, ownN_ap, eqI_ap, isC_y, il_int, il_bl, il_str, il_non, il_tup, il_lst, il_armD, il_ins, il_dic, il_ar, il_rig, Bool.false_eq_true, if_false, if_true, Res.bind_ok, Res.bind_bad, Res.out_ok, Res.out_bad, Res.calm_ok, List.map_cons, List.map_nil, List.length_cons, List.length_nil, Nat.reduceAdd, Nat.reduceSub, List.replicate, List.cons_append, List.nil_append, List.getElem?_cons_zero, List.getElem?_cons_succ, List.set_cons_succ, List.set_cons_zero, Bool.true_and, Bool.and_true, Bool.not_false, Bool.not_true, List.contains_nil, Option.bind_some, for_ap, lc_ap, Nat.reduceEqDiff, Nat.reduceLeDiff, Bool.false_xor, Bool.true_xor, and_self, decide_true, decide_false, List.lookup, List.all_cons, List.all_nil, List.contains_cons, Nat.reduceBEq, Bool.or_false, Bool.false_or, Bool.or_true, Bool.true_or, beq_self_eq_true, List.contains_nil, trD, il_tr, h3, h4, e_L_is_forward ht (show d ≤ 3 by omega), h5]
theorem e_L_tree {st : List Int} (hs : stOk st = true) {d : Nat} (hd : d ≤ 3) : ∃ t st', f_L_tree 0 [.int d] [srcD st] = .ok (trD t) [srcD st'] ∧ TOk d t ∧ stOk st' = true := by
  unfold f_L_tree; exact e_tree 4 d st hs (by omega) hd
end Lw

namespace Lw
open PySem PySem.Spec PyProof.Rows L2 Sr Pv Rg
/-! ### rigs as values of the operators -/
theorem ownB_rig {h : List D → Rs → Res D} {a b : Arms} {R : Rs} : dOwnB "Rig" h (rigD a) (rigD b) R = h [rigD a, rigD b] R := ownB_ap
theorem ownT_rig {h : List D → Rs → Res D} {a : Arms} {i : Int} {R : Rs} : dOwnT "Rig" h (rigD a) (.int i) R = h [rigD a, .int i] R := ownT_ap
theorem ownN_rig {h : List D → Rs → Res D} {a : Arms} {R : Rs} : dOwnN "Rig" h (rigD a) R = h [rigD a] R := ownN_ap
theorem eqI_rig {n : Bool} {a b : Arms} {R : Rs} : dEqI "Rig" n f_Rig_eq (rigD a) (rigD b) R = .ok (.bl (n ^^ decide (a = b))) R := by
  unfold rigD
  rw [eqI_ap]
  have := e_rig_eq (a := a) (b := b) (R := R)
  unfold rigD at this
  rw [this]
  rfl
def propR (c : Str) (h : List D → Rs → Res D) : D → Rs → Res D := fun d R1 => match d with
  | .ins c' fs => if c' = c then h [.ins c' fs] R1 else .bad
  | _ => .bad
theorem propR_ap {c : Str} {h : List D → Rs → Res D} {g : G} {ρ : PEnv} {R : Rs} : gProp c h g ρ R = (g ρ R).bind (propR c h) := rfl
theorem propR_rig {h : List D → Rs → Res D} {a : Arms} {R : Rs} : propR "Rig" h (rigD a) R = h [rigD a] R := by simp [propR, rigD]
/-! ### bounds of combinations -/
theorem _root_.Rg.RB.plus {a b : Arms} {M L M' L' : Int} {n n' : Nat} (r : RB a M L n) (q : RB b M' L' n') : RB (addA a b 1) (max M M') (L + 1 * L') (n + n') := r.add q (by decide) (by decide)
theorem _root_.Rg.RB.minus {a b : Arms} {M L M' L' : Int} {n n' : Nat} (r : RB a M L n) (q : RB b M' L' n') : RB (addA a b (-1)) (max M M') (L + 1 * L') (n + n') := r.add q (by decide) (by decide)
theorem _root_.Rg.RB.opp {b : Arms} {M' L' : Int} {n' : Nat} (q : RB b M' L' n') : RB (addA [] b (-1)) (max 0 M') (0 + 1 * L') (0 + n') := (RB.nil (by decide) (by decide)).add q (by decide) (by decide)
theorem _root_.Rg.RB.times {b : Arms} {M' L' t : Int} {n' : Nat} (q : RB b M' L' n') (h1 : -3 ≤ t) (h2 : t ≤ 3) : RB (addA [] b t) (max 0 M') (0 + 3 * L') (0 + n') := (RB.nil (by decide) (by decide)).add q h1 h2
theorem fit_rb' {a : Arms} {M L : Int} {n : Nat} (r : RB a M L n ∧ M ≤ 999 ∧ 2 * L ≤ 1000000 ∧ n ≤ 60) : Fit a := fit_rb r.1 r.2.1 r.2.2.1 r.2.2.2
theorem _root_.Rg.RB.rod' {s S : Int} (h0 : 0 ≤ s) (h1 : s ≤ S) : RB [(s, 1)] S 1 1 := (RB.rod h0).mono h1 (Int.le_refl _) (Nat.le_refl _)
theorem dr_pull {a b : Arms} {M L M' L' : Int} {n n' : Nat} (r : RB a M L n) (q : RB b M' L' n') (hr : Rises a) : pull (drA a b) = pull a * pull b := by
  have d := r.dr q hr
  have m0 := r.m0
  have m1 := q.m0
  have e1 := cv_tail1 d.m (Int.le_refl (M + M'))
  rw [drA_cv r.c q.c hr (by omega), drA_cv r.c q.c hr (by omega)] at e1
  have e2 := cv_tail1 r.m (show M ≤ M + M' by omega)
  have e3 := cv_tail1 r.m (Int.le_refl M)
  have h3 := hr M m0
  have e4 := cv_tail' r.m (Int.le_refl M) (show M ≤ M + M' by omega)
  have c0 := hr.nonneg r.c m0
  rw [e2] at e1
  rcases Int.lt_or_eq_of_le (show 0 ≤ pull a by omega) with hp | hp
  · have : M' * 1 ≤ (M + M' - M) * pull a := by
      rw [show M + M' - M = M' by omega]
      exact Int.mul_le_mul_of_nonneg_left hp m1
    have e5 := cv_tail' q.m (show M' ≤ cv a (M + M') by omega) (show cv a (M + M') ≤ cv a (M + M') + pull a by omega)
    rw [show cv a (M + M') + pull a - cv a (M + M') = pull a by omega] at e5
    omega
  · rw [← hp, Int.add_zero] at e1
    rw [← hp, Int.zero_mul]
    omega
theorem pull_rb {a : Arms} {M L : Int} {n : Nat} (r : RB a M L n) : -L ≤ pull a ∧ pull a ≤ L := by
  have h := cv_tail1 r.m (Int.le_refl M)
  have := r.l M r.m0
  omega
theorem rg2 : rngD 0 (2 : Int).toNat = [.int 0, .int 1] := rfl
theorem rg3 : rngD 0 (3 : Int).toNat = [.int 0, .int 1, .int 2] := rfl
theorem rg4 : rngD 0 (4 : Int).toNat = [.int 0, .int 1, .int 2, .int 3] := rfl
theorem in2 : inB 2 = true := by decide
theorem in3 : inB 3 = true := by decide
theorem in4 : inB 4 = true := by decide
theorem lcG_nil {T : TD} {tt : GT} {ge : G} {ρ : PEnv} {R : Rs} : lcG T tt ge [] ρ R = .ok [] R := rfl
theorem lcG_yes {T : TD} {ge : G} {d : D} {ds : List D} {ρ ρ1 : PEnv} {R : Rs} (h : T d ρ = some ρ1) : lcG T gYes ge (d :: ds) ρ R = (ge ρ1 R).bind fun y R2 => (lcG T gYes ge ds ρ R2).bind fun ys R3 => .ok (y :: ys) R3 := by
  simp only [lcG, h, gYes, Res.bind_ok]
theorem lcG_yesN {i : Nat} {ge : G} {d : D} {ds : List D} {ρ : PEnv} {R : Rs} : lcG (dName i) gYes ge (d :: ds) ρ R = (ge (ρ.set i (some d)) R).bind fun y R2 => (lcG (dName i) gYes ge ds ρ R2).bind fun ys R3 => .ok (y :: ys) R3 := lcG_yes rfl
theorem lawStart_ap {n : Nat} : lawStart n = none :: some (.loc 0) :: List.replicate (n - 2) none := rfl
theorem loop_inv {T : TD} {b : GS} {ds : List D} {ρ : PEnv} {R : Rs} {o : Out} (hL : loopG T b ds ρ R = o) (I : PEnv → Rs → Prop) (h0 : I ρ R) (hs : ∀ d ∈ ds, ∀ ρ R, I ρ R → ∃ ρ1, T d ρ = some ρ1 ∧ ∃ ρ2 R2, (b ρ1 R = .nx ρ2 R2 ∨ b ρ1 R = .ct ρ2 R2) ∧ I ρ2 R2) : ∃ ρ2 R2, o = .nx ρ2 R2 ∧ I ρ2 R2 := by
  subst hL
  induction ds generalizing ρ R with
  | nil => exact ⟨ρ, R, rfl, h0⟩
  | cons d ds ih =>
    obtain ⟨ρ1, h1, ρ2, R2, h2, h3⟩ := hs d (by simp) ρ R h0
    obtain ⟨ρ3, R3, h4, h5⟩ := ih h3 fun d hd => hs d (by simp [hd])
    refine ⟨ρ3, R3, ?_, h5⟩
    rcases h2 with h2 | h2 <;> simp only [loopG, h1, h2, h4]
end Lw

namespace Lw
open PySem PySem.Spec PyProof.Rows L2 Sr Pv Rg
theorem hlaw (st : List Int) (hs : stOk st = true) : ∃ R', m_law (lawStart 9) [srcD st] = .rt (.bl true) R' := by
  obtain ⟨s0, st1, e1, a0, a1, hs⟩ := e_bel (n := 33) hs (by decide) (by decide)
  obtain ⟨s1, st2, e2, b0, b1, hs⟩ := e_bel (n := 33) hs (by decide) (by decide)
  obtain ⟨s2, st3, e3, c0, c1, hs⟩ := e_bel (n := 33) hs (by decide) (by decide)
  have r0 : RB [(s0, 1)] 99 1 1 := RB.rod' a0 (by omega)
  have r1 : RB [(s1, 1)] 99 1 1 := RB.rod' b0 (by omega)
  have r2 : RB [(s2, 1)] 99 1 1 := RB.rod' c0 (by omega)
  have r3 : RB [(s0 + s1, 1)] 99 1 1 := RB.rod' (by omega) (by omega)
  have r4 : RB [(s1 + s0, 1)] 99 1 1 := RB.rod' (by omega) (by omega)
  have f0 : Fit [(s0, 1)] := by (apply fit_rb'; constructor; (· repeat' (first | assumption | apply RB.opp | apply RB.times | apply RB.plus | apply RB.minus | apply RB.dr | apply RB.rod' | apply rises_rod | apply Int.le_refl | omega)); (· decide))
  have f1 : Fit [(s1, 1)] := by (apply fit_rb'; constructor; (· repeat' (first | assumption | apply RB.opp | apply RB.times | apply RB.plus | apply RB.minus | apply RB.dr | apply RB.rod' | apply rises_rod | apply Int.le_refl | omega)); (· decide))
  have f2 : Fit [(s2, 1)] := by (apply fit_rb'; constructor; (· repeat' (first | assumption | apply RB.opp | apply RB.times | apply RB.plus | apply RB.minus | apply RB.dr | apply RB.rod' | apply rises_rod | apply Int.le_refl | omega)); (· decide))
  have f3 : Fit [(s0 + s1, 1)] := by (apply fit_rb'; constructor; (· repeat' (first | assumption | apply RB.opp | apply RB.times | apply RB.plus | apply RB.minus | apply RB.dr | apply RB.rod' | apply rises_rod | apply Int.le_refl | omega)); (· decide))
  have f4 : Fit [(s1 + s0, 1)] := by (apply fit_rb'; constructor; (· repeat' (first | assumption | apply RB.opp | apply RB.times | apply RB.plus | apply RB.minus | apply RB.dr | apply RB.rod' | apply rises_rod | apply Int.le_refl | omega)); (· decide))
  have f5 : Fit [(s0 + s1 + s2, 1)] := fit_rb (RB.rod' (S := 99) (by omega) (by omega)) (by decide) (by decide) (by decide)
  have q1 := eq_rods a0 b0
  have q2 := eq_rods (show 0 ≤ s0 + s1 by omega) c0
  have q3 := eq_rods c0 (show 0 ≤ s1 + s0 by omega)
  have q4 : s2 + (s1 + s0) = s0 + s1 + s2 := by omega
  rw [q4] at q3
  unfold m_law
  simp only [calmF_ap, le_line, lt_line, var_ap, c_ap, op_ap, un_ap, b_ap, and_ap, or_ap, not_ap, if_ap, andV_ap, orV_ap, ch_ap, nil_ap, cons_ap, star_ap, tup_ap, lst_ap, arm_ap, cb_ap, noPart_ap, part_ap, sl_ap, slL_ap, call_ap, callL_ap, mk_ap, fld_ap, meth_ap, callI_ap, get2_ap, dnew_ap, it_ap, itA_ap, yes_ap, next_ap, seq_ap, set_ap, setO_ap, drop_ap, ret_ap, retN_ap, brk_ap, cnt_ap, never_ap, ifS_ap, aug_ap, app_ap, ext_ap, pop_ap, par_ap, asg_ap, dset_ap, stF_ap, fldL_ap, see_f, see_g, okM_f, okM_g, okR_f, okR_g, okO_f, okO_g, hide_nil, hide_cons, setAll_cons, setAll_nil, wipe_nil, wipe_cons, runB_ap, runL_ap, startL_ap, startD_ap, out1_nx, out1_rt, dName_ap, dGTup_ap, dGLst_ap, dGCons_ap, dGNil_ap, dAdd_ap, dSub_ap, dMul_ap, dFdiv_ap, dMod_ap, dLt_ap, dLe_ap, dGt_ap, dGe_ap, bOf_ap, dNeg_ap, dNot_ap, eqS_int, eqS_bl, eqS_str, dInt1_ap, dInt1_bl, dMax2_ap, dMin2_ap, dAbs_ap, dSum_ap, dAny_ap, dAll_ap, dLen_l, dLen_t, dLen_a, dIx_l, dIx_t, dIx_a, dTup_ap, dLst_ap, dArm_ap, dList_l, dList_t, dTupl_ap, dTupA_ap, lstOf_ap, tupOf_t, tupOf_a, itemsOf_t, itemsOf_l, dSl_l, dSl_t, dSlL_ap, dCatL_ap, dIsN_ap, rng1_ap, rng2_ap, dRange_1, dRange_2, dRange3_ap, isC_y, il_int, il_bl, il_str, il_non, il_tup, il_lst, il_armD, il_ins, il_dic, il_ar, il_rig, Bool.false_eq_true, if_false, if_true, Res.bind_ok, Res.bind_bad, Res.out_ok, Res.out_bad, Res.calm_ok, List.map_cons, List.map_nil, List.length_cons, List.length_nil, Nat.reduceAdd, Nat.reduceSub, List.replicate, List.cons_append, List.nil_append, List.getElem?_cons_zero, List.getElem?_cons_succ, List.set_cons_succ, List.set_cons_zero, Bool.true_and, Bool.and_true, Bool.not_false, Bool.not_true, List.contains_nil, Option.bind_some, for_ap, lc_ap, Nat.reduceEqDiff, Nat.reduceLeDiff, Bool.false_xor, Bool.true_xor, and_self, decide_true, decide_false, List.lookup, List.all_cons, List.all_nil, List.contains_cons, Nat.reduceBEq, Bool.or_false, Bool.false_or, Bool.or_true, Bool.true_or, beq_self_eq_true, List.contains_nil, propR_ap, propR_rig, ownB_rig, ownT_rig, ownN_rig, eqI_rig, e_rig_fwd, lcG_nil, lcG_yesN, eq_self, lawStart_ap, in2, in3, in4, rg2, rg3, rg4, at0, at1, at2, il_tr, Bool.xor_true, Bool.xor_false, e1, e2, e3, e_rod a0 (by omega), e_rod b0 (by omega), e_rod c0 (by omega), e_rod (show 0 ≤ s0 + s1 by omega) (by omega), e_rod (show 0 ≤ s1 + s0 by omega) (by omega),
    e_rig_rshift f0 f1 rises_rod (q1 ▸ f3), q1, e_rig_rshift f3 f2 rises_rod (q2 ▸ f5), q2, e_rig_rshift f2 f4 rises_rod (q3 ▸ f5), q3]
  generalize hL : loopG _ _ _ _ _ = o
  have hI := loop_inv hL (fun ρ R => ∃ st, R = [srcD st] ∧ stOk st = true ∧ ∃ u0 u1 u2 u3 u4 u5 u6, ρ = [none, some (.loc 0), u0, u1, u2, u3, u4, u5, u6]) ⟨_, rfl, hs, _, _, _, _, _, _, _, rfl⟩
  suffices hh : _ by
    obtain ⟨ρ2, R2, rfl, h2⟩ := hI hh
    exact ⟨_, rfl⟩
  clear hI hL
  rintro d hd ρ R ⟨st, rfl, hs, u0, u1, u2, u3, u4, u5, u6, rfl⟩
  refine ⟨_, rfl, ?_⟩
  obtain ⟨a, st1, e1, ta, hs⟩ := e_L_tree hs (d := 2) (by decide)
  obtain ⟨b, st2, e2, tb, hs⟩ := e_L_tree hs (d := 2) (by decide)
  obtain ⟨c, st3, e3, tc, hs⟩ := e_L_tree hs (d := 2) (by decide)
  obtain ⟨k, st4, e4, k0, k1, hs⟩ := e_bel (n := 7) hs (by decide) (by decide)
  have ra := (ta.rb (by decide)).1
  have rb := (tb.rb (by decide)).1
  have rc := (tc.rb (by decide)).1
  rw [show ((2 : Nat) : Int) = 2 from rfl] at e1 e2 e3
  simp only [calmF_ap, le_line, lt_line, var_ap, c_ap, op_ap, un_ap, b_ap, and_ap, or_ap, not_ap, if_ap, andV_ap, orV_ap, ch_ap, nil_ap, cons_ap, star_ap, tup_ap, lst_ap, arm_ap, cb_ap, noPart_ap, part_ap, sl_ap, slL_ap, call_ap, callL_ap, mk_ap, fld_ap, meth_ap, callI_ap, get2_ap, dnew_ap, it_ap, itA_ap, yes_ap, next_ap, seq_ap, set_ap, setO_ap, drop_ap, ret_ap, retN_ap, brk_ap, cnt_ap, never_ap, ifS_ap, aug_ap, app_ap, ext_ap, pop_ap, par_ap, asg_ap, dset_ap, stF_ap, fldL_ap, see_f, see_g, okM_f, okM_g, okR_f, okR_g, okO_f, okO_g, hide_nil, hide_cons, setAll_cons, setAll_nil, wipe_nil, wipe_cons, runB_ap, runL_ap, startL_ap, startD_ap, out1_nx, out1_rt, dName_ap, dGTup_ap, dGLst_ap, dGCons_ap, dGNil_ap, dAdd_ap, dSub_ap, dMul_ap, dFdiv_ap, dMod_ap, dLt_ap, dLe_ap, dGt_ap, dGe_ap, bOf_ap, dNeg_ap, dNot_ap, eqS_int, eqS_bl, eqS_str, dInt1_ap, dInt1_bl, dMax2_ap, dMin2_ap, dAbs_ap, dSum_ap, dAny_ap, dAll_ap, dLen_l, dLen_t, dLen_a, dIx_l, dIx_t, dIx_a, dTup_ap, dLst_ap, dArm_ap, dList_l, dList_t, dTupl_ap, dTupA_ap, lstOf_ap, tupOf_t, tupOf_a, itemsOf_t, itemsOf_l, dSl_l, dSl_t, dSlL_ap, dCatL_ap, dIsN_ap, rng1_ap, rng2_ap, dRange_1, dRange_2, dRange3_ap, isC_y, il_int, il_bl, il_str, il_non, il_tup, il_lst, il_armD, il_ins, il_dic, il_ar, il_rig, Bool.false_eq_true, if_false, if_true, Res.bind_ok, Res.bind_bad, Res.out_ok, Res.out_bad, Res.calm_ok, List.map_cons, List.map_nil, List.length_cons, List.length_nil, Nat.reduceAdd, Nat.reduceSub, List.replicate, List.cons_append, List.nil_append, List.getElem?_cons_zero, List.getElem?_cons_succ, List.set_cons_succ, List.set_cons_zero, Bool.true_and, Bool.and_true, Bool.not_false, Bool.not_true, List.contains_nil, Option.bind_some, for_ap, lc_ap, Nat.reduceEqDiff, Nat.reduceLeDiff, Bool.false_xor, Bool.true_xor, and_self, decide_true, decide_false, List.lookup, List.all_cons, List.all_nil, List.contains_cons, Nat.reduceBEq, Bool.or_false, Bool.false_or, Bool.or_true, Bool.true_or, beq_self_eq_true, List.contains_nil, propR_ap, propR_rig, ownB_rig, ownT_rig, ownN_rig, eqI_rig, e_rig_fwd, lcG_nil, lcG_yesN, eq_self, lawStart_ap, in2, in3, in4, rg2, rg3, rg4, at0, at1, at2, il_tr, Bool.xor_true, Bool.xor_false, e1, e2, e3, e_L_rig ta (show 2 ≤ 3 by decide), e_L_rig tb (show 2 ≤ 3 by decide), e_L_rig tc (show 2 ≤ 3 by decide)]
  generalize a.ar = a at *
  generalize b.ar = b at *
  generalize c.ar = c at *
  have fa : Fit a := by (apply fit_rb'; constructor; (· repeat' (first | assumption | apply RB.opp | apply RB.times | apply RB.plus | apply RB.minus | apply RB.dr | apply RB.rod' | apply rises_rod | apply Int.le_refl | omega)); (· decide))
  have fb : Fit b := by (apply fit_rb'; constructor; (· repeat' (first | assumption | apply RB.opp | apply RB.times | apply RB.plus | apply RB.minus | apply RB.dr | apply RB.rod' | apply rises_rod | apply Int.le_refl | omega)); (· decide))
  have fc : Fit c := by (apply fit_rb'; constructor; (· repeat' (first | assumption | apply RB.opp | apply RB.times | apply RB.plus | apply RB.minus | apply RB.dr | apply RB.rod' | apply rises_rod | apply Int.le_refl | omega)); (· decide))
  have hk1 : -3 ≤ k - 3 := by omega
  have hk2 : k - 3 ≤ 3 := by omega
  generalize hK : k - 3 = K at *
  have hz : (0 : Int) ≤ 99 := by decide
  have ca := ra.c
  have cb := rb.c
  have cc := rc.c
  have r0 : RB [(0, 1)] 99 1 1 := RB.rod' (by decide) (by decide)
  have f0 : Fit [(0, 1)] := by (apply fit_rb'; constructor; (· repeat' (first | assumption | apply RB.opp | apply RB.times | apply RB.plus | apply RB.minus | apply RB.dr | apply RB.rod' | apply rises_rod | apply Int.le_refl | omega)); (· decide))
  have z1 : addA b a 1 = addA a b 1 := eq_comm' cb ca
  simp only [calmF_ap, le_line, lt_line, var_ap, c_ap, op_ap, un_ap, b_ap, and_ap, or_ap, not_ap, if_ap, andV_ap, orV_ap, ch_ap, nil_ap, cons_ap, star_ap, tup_ap, lst_ap, arm_ap, cb_ap, noPart_ap, part_ap, sl_ap, slL_ap, call_ap, callL_ap, mk_ap, fld_ap, meth_ap, callI_ap, get2_ap, dnew_ap, it_ap, itA_ap, yes_ap, next_ap, seq_ap, set_ap, setO_ap, drop_ap, ret_ap, retN_ap, brk_ap, cnt_ap, never_ap, ifS_ap, aug_ap, app_ap, ext_ap, pop_ap, par_ap, asg_ap, dset_ap, stF_ap, fldL_ap, see_f, see_g, okM_f, okM_g, okR_f, okR_g, okO_f, okO_g, hide_nil, hide_cons, setAll_cons, setAll_nil, wipe_nil, wipe_cons, runB_ap, runL_ap, startL_ap, startD_ap, out1_nx, out1_rt, dName_ap, dGTup_ap, dGLst_ap, dGCons_ap, dGNil_ap, dAdd_ap, dSub_ap, dMul_ap, dFdiv_ap, dMod_ap, dLt_ap, dLe_ap, dGt_ap, dGe_ap, bOf_ap, dNeg_ap, dNot_ap, eqS_int, eqS_bl, eqS_str, dInt1_ap, dInt1_bl, dMax2_ap, dMin2_ap, dAbs_ap, dSum_ap, dAny_ap, dAll_ap, dLen_l, dLen_t, dLen_a, dIx_l, dIx_t, dIx_a, dTup_ap, dLst_ap, dArm_ap, dList_l, dList_t, dTupl_ap, dTupA_ap, lstOf_ap, tupOf_t, tupOf_a, itemsOf_t, itemsOf_l, dSl_l, dSl_t, dSlL_ap, dCatL_ap, dIsN_ap, rng1_ap, rng2_ap, dRange_1, dRange_2, dRange3_ap, isC_y, il_int, il_bl, il_str, il_non, il_tup, il_lst, il_armD, il_ins, il_dic, il_ar, il_rig, Bool.false_eq_true, if_false, if_true, Res.bind_ok, Res.bind_bad, Res.out_ok, Res.out_bad, Res.calm_ok, List.map_cons, List.map_nil, List.length_cons, List.length_nil, Nat.reduceAdd, Nat.reduceSub, List.replicate, List.cons_append, List.nil_append, List.getElem?_cons_zero, List.getElem?_cons_succ, List.set_cons_succ, List.set_cons_zero, Bool.true_and, Bool.and_true, Bool.not_false, Bool.not_true, List.contains_nil, Option.bind_some, for_ap, lc_ap, Nat.reduceEqDiff, Nat.reduceLeDiff, Bool.false_xor, Bool.true_xor, and_self, decide_true, decide_false, List.lookup, List.all_cons, List.all_nil, List.contains_cons, Nat.reduceBEq, Bool.or_false, Bool.false_or, Bool.or_true, Bool.true_or, beq_self_eq_true, List.contains_nil, propR_ap, propR_rig, ownB_rig, ownT_rig, ownN_rig, eqI_rig, e_rig_fwd, lcG_nil, lcG_yesN, eq_self, lawStart_ap, in2, in3, in4, rg2, rg3, rg4, at0, at1, at2, il_tr, Bool.xor_true, Bool.xor_false, e4, hK,
    e_rig_add fa fb (by (apply fit_rb'; constructor; (· repeat' (first | assumption | apply RB.opp | apply RB.times | apply RB.plus | apply RB.minus | apply RB.dr | apply RB.rod' | apply rises_rod | apply Int.le_refl | omega)); (· decide))), e_rig_add fb fa (by (apply fit_rb'; constructor; (· repeat' (first | assumption | apply RB.opp | apply RB.times | apply RB.plus | apply RB.minus | apply RB.dr | apply RB.rod' | apply rises_rod | apply Int.le_refl | omega)); (· decide))), z1, e_rig_sub fa fb (by (apply fit_rb'; constructor; (· repeat' (first | assumption | apply RB.opp | apply RB.times | apply RB.plus | apply RB.minus | apply RB.dr | apply RB.rod' | apply rises_rod | apply Int.le_refl | omega)); (· decide))), e_rig_neg fb (by (apply fit_rb'; constructor; (· repeat' (first | assumption | apply RB.opp | apply RB.times | apply RB.plus | apply RB.minus | apply RB.dr | apply RB.rod' | apply rises_rod | apply Int.le_refl | omega)); (· decide))), e_rig_add fa (show Fit (addA [] b (-1)) by (apply fit_rb'; constructor; (· repeat' (first | assumption | apply RB.opp | apply RB.times | apply RB.plus | apply RB.minus | apply RB.dr | apply RB.rod' | apply rises_rod | apply Int.le_refl | omega)); (· decide))) (by (apply fit_rb'; constructor; (· repeat' (first | assumption | apply RB.opp | apply RB.times | apply RB.plus | apply RB.minus | apply RB.dr | apply RB.rod' | apply rises_rod | apply Int.le_refl | omega)); (· decide))), eq_neg ca cb,
    e_rig_add (show Fit (addA a b 1) by (apply fit_rb'; constructor; (· repeat' (first | assumption | apply RB.opp | apply RB.times | apply RB.plus | apply RB.minus | apply RB.dr | apply RB.rod' | apply rises_rod | apply Int.le_refl | omega)); (· decide))) fc (by (apply fit_rb'; constructor; (· repeat' (first | assumption | apply RB.opp | apply RB.times | apply RB.plus | apply RB.minus | apply RB.dr | apply RB.rod' | apply rises_rod | apply Int.le_refl | omega)); (· decide))), e_rig_add fb fc (by (apply fit_rb'; constructor; (· repeat' (first | assumption | apply RB.opp | apply RB.times | apply RB.plus | apply RB.minus | apply RB.dr | apply RB.rod' | apply rises_rod | apply Int.le_refl | omega)); (· decide))), e_rig_add fa (show Fit (addA b c 1) by (apply fit_rb'; constructor; (· repeat' (first | assumption | apply RB.opp | apply RB.times | apply RB.plus | apply RB.minus | apply RB.dr | apply RB.rod' | apply rises_rod | apply Int.le_refl | omega)); (· decide))) (by (apply fit_rb'; constructor; (· repeat' (first | assumption | apply RB.opp | apply RB.times | apply RB.plus | apply RB.minus | apply RB.dr | apply RB.rod' | apply rises_rod | apply Int.le_refl | omega)); (· decide))), eq_assoc ca cb cc,
    e_rig_mul (show -99 ≤ K by omega) (show K ≤ 99 by omega) (show Fit (addA a b 1) by (apply fit_rb'; constructor; (· repeat' (first | assumption | apply RB.opp | apply RB.times | apply RB.plus | apply RB.minus | apply RB.dr | apply RB.rod' | apply rises_rod | apply Int.le_refl | omega)); (· decide))) (by (apply fit_rb'; constructor; (· repeat' (first | assumption | apply RB.opp | apply RB.times | apply RB.plus | apply RB.minus | apply RB.dr | apply RB.rod' | apply rises_rod | apply Int.le_refl | omega)); (· decide))), e_rig_mul (show -99 ≤ K by omega) (show K ≤ 99 by omega) fa (by (apply fit_rb'; constructor; (· repeat' (first | assumption | apply RB.opp | apply RB.times | apply RB.plus | apply RB.minus | apply RB.dr | apply RB.rod' | apply rises_rod | apply Int.le_refl | omega)); (· decide))), e_rig_mul (show -99 ≤ K by omega) (show K ≤ 99 by omega) fb (by (apply fit_rb'; constructor; (· repeat' (first | assumption | apply RB.opp | apply RB.times | apply RB.plus | apply RB.minus | apply RB.dr | apply RB.rod' | apply rises_rod | apply Int.le_refl | omega)); (· decide))), e_rig_add (show Fit (addA [] a K) by (apply fit_rb'; constructor; (· repeat' (first | assumption | apply RB.opp | apply RB.times | apply RB.plus | apply RB.minus | apply RB.dr | apply RB.rod' | apply rises_rod | apply Int.le_refl | omega)); (· decide))) (show Fit (addA [] b K) by (apply fit_rb'; constructor; (· repeat' (first | assumption | apply RB.opp | apply RB.times | apply RB.plus | apply RB.minus | apply RB.dr | apply RB.rod' | apply rises_rod | apply Int.le_refl | omega)); (· decide))) (by (apply fit_rb'; constructor; (· repeat' (first | assumption | apply RB.opp | apply RB.times | apply RB.plus | apply RB.minus | apply RB.dr | apply RB.rod' | apply rises_rod | apply Int.le_refl | omega)); (· decide))), eq_dist ca cb]
  have hp := pull_rb ra
  have hq := pull_rb rb
  have hm : CMul (pull a) (pull b) := cmul_r ⟨by have := hq.1; simp only [Lb] at this; omega, by have := hq.2; simp only [Lb] at this; omega⟩
  have fz := e_rod (R := [srcD st4]) (show (0 : Int) ≤ 0 by decide) hz
  simp only [calmF_ap, le_line, lt_line, var_ap, c_ap, op_ap, un_ap, b_ap, and_ap, or_ap, not_ap, if_ap, andV_ap, orV_ap, ch_ap, nil_ap, cons_ap, star_ap, tup_ap, lst_ap, arm_ap, cb_ap, noPart_ap, part_ap, sl_ap, slL_ap, call_ap, callL_ap, mk_ap, fld_ap, meth_ap, callI_ap, get2_ap, dnew_ap, it_ap, itA_ap, yes_ap, next_ap, seq_ap, set_ap, setO_ap, drop_ap, ret_ap, retN_ap, brk_ap, cnt_ap, never_ap, ifS_ap, aug_ap, app_ap, ext_ap, pop_ap, par_ap, asg_ap, dset_ap, stF_ap, fldL_ap, see_f, see_g, okM_f, okM_g, okR_f, okR_g, okO_f, okO_g, hide_nil, hide_cons, setAll_cons, setAll_nil, wipe_nil, wipe_cons, runB_ap, runL_ap, startL_ap, startD_ap, out1_nx, out1_rt, dName_ap, dGTup_ap, dGLst_ap, dGCons_ap, dGNil_ap, dAdd_ap, dSub_ap, dMul_ap, dFdiv_ap, dMod_ap, dLt_ap, dLe_ap, dGt_ap, dGe_ap, bOf_ap, dNeg_ap, dNot_ap, eqS_int, eqS_bl, eqS_str, dInt1_ap, dInt1_bl, dMax2_ap, dMin2_ap, dAbs_ap, dSum_ap, dAny_ap, dAll_ap, dLen_l, dLen_t, dLen_a, dIx_l, dIx_t, dIx_a, dTup_ap, dLst_ap, dArm_ap, dList_l, dList_t, dTupl_ap, dTupA_ap, lstOf_ap, tupOf_t, tupOf_a, itemsOf_t, itemsOf_l, dSl_l, dSl_t, dSlL_ap, dCatL_ap, dIsN_ap, rng1_ap, rng2_ap, dRange_1, dRange_2, dRange3_ap, isC_y, il_int, il_bl, il_str, il_non, il_tup, il_lst, il_armD, il_ins, il_dic, il_ar, il_rig, Bool.false_eq_true, if_false, if_true, Res.bind_ok, Res.bind_bad, Res.out_ok, Res.out_bad, Res.calm_ok, List.map_cons, List.map_nil, List.length_cons, List.length_nil, Nat.reduceAdd, Nat.reduceSub, List.replicate, List.cons_append, List.nil_append, List.getElem?_cons_zero, List.getElem?_cons_succ, List.set_cons_succ, List.set_cons_zero, Bool.true_and, Bool.and_true, Bool.not_false, Bool.not_true, List.contains_nil, Option.bind_some, for_ap, lc_ap, Nat.reduceEqDiff, Nat.reduceLeDiff, Bool.false_xor, Bool.true_xor, and_self, decide_true, decide_false, List.lookup, List.all_cons, List.all_nil, List.contains_cons, Nat.reduceBEq, Bool.or_false, Bool.false_or, Bool.or_true, Bool.true_or, beq_self_eq_true, List.contains_nil, propR_ap, propR_rig, ownB_rig, ownT_rig, ownN_rig, eqI_rig, e_rig_fwd, lcG_nil, lcG_yesN, eq_self, lawStart_ap, in2, in3, in4, rg2, rg3, rg4, at0, at1, at2, il_tr, Bool.xor_true, Bool.xor_false, e_rig_mul (show (-99 : Int) ≤ 0 by decide) (show (0 : Int) ≤ 99 by decide) fa (by (apply fit_rb'; constructor; (· repeat' (first | assumption | apply RB.opp | apply RB.times | apply RB.plus | apply RB.minus | apply RB.dr | apply RB.rod' | apply rises_rod | apply Int.le_refl | omega)); (· decide))), e_rig_sub fa fa (by (apply fit_rb'; constructor; (· repeat' (first | assumption | apply RB.opp | apply RB.times | apply RB.plus | apply RB.minus | apply RB.dr | apply RB.rod' | apply rises_rod | apply Int.le_refl | omega)); (· decide))), eq_zero ca, e_rig_neg fa (by (apply fit_rb'; constructor; (· repeat' (first | assumption | apply RB.opp | apply RB.times | apply RB.plus | apply RB.minus | apply RB.dr | apply RB.rod' | apply rises_rod | apply Int.le_refl | omega)); (· decide))), e_rig_neg (show Fit (addA [] a (-1)) by (apply fit_rb'; constructor; (· repeat' (first | assumption | apply RB.opp | apply RB.times | apply RB.plus | apply RB.minus | apply RB.dr | apply RB.rod' | apply rises_rod | apply Int.le_refl | omega)); (· decide))) (by (apply fit_rb'; constructor; (· repeat' (first | assumption | apply RB.opp | apply RB.times | apply RB.plus | apply RB.minus | apply RB.dr | apply RB.rod' | apply rises_rod | apply Int.le_refl | omega)); (· decide))), eq_negneg ca]
  by_cases hf : nf a 0 = true
  · have hr : Rises a := (nf_rises ca).mp hf
    by_cases hg : nf b 0 = true
    · have hrb : Rises b := (nf_rises cb).mp hg
      have hd : Rises (drA a b) := rises_dr ca cb hr hrb
      simp only [calmF_ap, le_line, lt_line, var_ap, c_ap, op_ap, un_ap, b_ap, and_ap, or_ap, not_ap, if_ap, andV_ap, orV_ap, ch_ap, nil_ap, cons_ap, star_ap, tup_ap, lst_ap, arm_ap, cb_ap, noPart_ap, part_ap, sl_ap, slL_ap, call_ap, callL_ap, mk_ap, fld_ap, meth_ap, callI_ap, get2_ap, dnew_ap, it_ap, itA_ap, yes_ap, next_ap, seq_ap, set_ap, setO_ap, drop_ap, ret_ap, retN_ap, brk_ap, cnt_ap, never_ap, ifS_ap, aug_ap, app_ap, ext_ap, pop_ap, par_ap, asg_ap, dset_ap, stF_ap, fldL_ap, see_f, see_g, okM_f, okM_g, okR_f, okR_g, okO_f, okO_g, hide_nil, hide_cons, setAll_cons, setAll_nil, wipe_nil, wipe_cons, runB_ap, runL_ap, startL_ap, startD_ap, out1_nx, out1_rt, dName_ap, dGTup_ap, dGLst_ap, dGCons_ap, dGNil_ap, dAdd_ap, dSub_ap, dMul_ap, dFdiv_ap, dMod_ap, dLt_ap, dLe_ap, dGt_ap, dGe_ap, bOf_ap, dNeg_ap, dNot_ap, eqS_int, eqS_bl, eqS_str, dInt1_ap, dInt1_bl, dMax2_ap, dMin2_ap, dAbs_ap, dSum_ap, dAny_ap, dAll_ap, dLen_l, dLen_t, dLen_a, dIx_l, dIx_t, dIx_a, dTup_ap, dLst_ap, dArm_ap, dList_l, dList_t, dTupl_ap, dTupA_ap, lstOf_ap, tupOf_t, tupOf_a, itemsOf_t, itemsOf_l, dSl_l, dSl_t, dSlL_ap, dCatL_ap, dIsN_ap, rng1_ap, rng2_ap, dRange_1, dRange_2, dRange3_ap, isC_y, il_int, il_bl, il_str, il_non, il_tup, il_lst, il_armD, il_ins, il_dic, il_ar, il_rig, Bool.false_eq_true, if_false, if_true, Res.bind_ok, Res.bind_bad, Res.out_ok, Res.out_bad, Res.calm_ok, List.map_cons, List.map_nil, List.length_cons, List.length_nil, Nat.reduceAdd, Nat.reduceSub, List.replicate, List.cons_append, List.nil_append, List.getElem?_cons_zero, List.getElem?_cons_succ, List.set_cons_succ, List.set_cons_zero, Bool.true_and, Bool.and_true, Bool.not_false, Bool.not_true, List.contains_nil, Option.bind_some, for_ap, lc_ap, Nat.reduceEqDiff, Nat.reduceLeDiff, Bool.false_xor, Bool.true_xor, and_self, decide_true, decide_false, List.lookup, List.all_cons, List.all_nil, List.contains_cons, Nat.reduceBEq, Bool.or_false, Bool.false_or, Bool.or_true, Bool.true_or, beq_self_eq_true, List.contains_nil, propR_ap, propR_rig, ownB_rig, ownT_rig, ownN_rig, eqI_rig, e_rig_fwd, lcG_nil, lcG_yesN, eq_self, lawStart_ap, in2, in3, in4, rg2, rg3, rg4, at0, at1, at2, il_tr, Bool.xor_true, Bool.xor_false, hf, hg, e_rig_add fb fc (by (apply fit_rb'; constructor; (· repeat' (first | assumption | apply RB.opp | apply RB.times | apply RB.plus | apply RB.minus | apply RB.dr | apply RB.rod' | apply rises_rod | apply Int.le_refl | omega)); (· decide))), e_rig_rshift fa (show Fit (addA b c 1) by (apply fit_rb'; constructor; (· repeat' (first | assumption | apply RB.opp | apply RB.times | apply RB.plus | apply RB.minus | apply RB.dr | apply RB.rod' | apply rises_rod | apply Int.le_refl | omega)); (· decide))) hr (by (apply fit_rb'; constructor; (· repeat' (first | assumption | apply RB.opp | apply RB.times | apply RB.plus | apply RB.minus | apply RB.dr | apply RB.rod' | apply rises_rod | apply Int.le_refl | omega)); (· decide))), e_rig_rshift fa fb hr (by (apply fit_rb'; constructor; (· repeat' (first | assumption | apply RB.opp | apply RB.times | apply RB.plus | apply RB.minus | apply RB.dr | apply RB.rod' | apply rises_rod | apply Int.le_refl | omega)); (· decide))), e_rig_rshift fa fc hr (by (apply fit_rb'; constructor; (· repeat' (first | assumption | apply RB.opp | apply RB.times | apply RB.plus | apply RB.minus | apply RB.dr | apply RB.rod' | apply rises_rod | apply Int.le_refl | omega)); (· decide))), e_rig_add (show Fit (drA a b) by (apply fit_rb'; constructor; (· repeat' (first | assumption | apply RB.opp | apply RB.times | apply RB.plus | apply RB.minus | apply RB.dr | apply RB.rod' | apply rises_rod | apply Int.le_refl | omega)); (· decide))) (show Fit (drA a c) by (apply fit_rb'; constructor; (· repeat' (first | assumption | apply RB.opp | apply RB.times | apply RB.plus | apply RB.minus | apply RB.dr | apply RB.rod' | apply rises_rod | apply Int.le_refl | omega)); (· decide))) (by (apply fit_rb'; constructor; (· repeat' (first | assumption | apply RB.opp | apply RB.times | apply RB.plus | apply RB.minus | apply RB.dr | apply RB.rod' | apply rises_rod | apply Int.le_refl | omega)); (· decide))), eq_dr_add ca cb cc hr,
        e_rig_mul (show -99 ≤ K by omega) (show K ≤ 99 by omega) fb (by (apply fit_rb'; constructor; (· repeat' (first | assumption | apply RB.opp | apply RB.times | apply RB.plus | apply RB.minus | apply RB.dr | apply RB.rod' | apply rises_rod | apply Int.le_refl | omega)); (· decide))), e_rig_rshift fa (show Fit (addA [] b K) by (apply fit_rb'; constructor; (· repeat' (first | assumption | apply RB.opp | apply RB.times | apply RB.plus | apply RB.minus | apply RB.dr | apply RB.rod' | apply rises_rod | apply Int.le_refl | omega)); (· decide))) hr (by (apply fit_rb'; constructor; (· repeat' (first | assumption | apply RB.opp | apply RB.times | apply RB.plus | apply RB.minus | apply RB.dr | apply RB.rod' | apply rises_rod | apply Int.le_refl | omega)); (· decide))), e_rig_mul (show -99 ≤ K by omega) (show K ≤ 99 by omega) (show Fit (drA a b) by (apply fit_rb'; constructor; (· repeat' (first | assumption | apply RB.opp | apply RB.times | apply RB.plus | apply RB.minus | apply RB.dr | apply RB.rod' | apply rises_rod | apply Int.le_refl | omega)); (· decide))) (by (apply fit_rb'; constructor; (· repeat' (first | assumption | apply RB.opp | apply RB.times | apply RB.plus | apply RB.minus | apply RB.dr | apply RB.rod' | apply rises_rod | apply Int.le_refl | omega)); (· decide))), eq_dr_mul ca cb hr,
        e_rig_rshift (show Fit (drA a b) by (apply fit_rb'; constructor; (· repeat' (first | assumption | apply RB.opp | apply RB.times | apply RB.plus | apply RB.minus | apply RB.dr | apply RB.rod' | apply rises_rod | apply Int.le_refl | omega)); (· decide))) fc hd (by (apply fit_rb'; constructor; (· repeat' (first | assumption | apply RB.opp | apply RB.times | apply RB.plus | apply RB.minus | apply RB.dr | apply RB.rod' | apply rises_rod | apply Int.le_refl | omega)); (· decide))), e_rig_rshift fb fc hrb (by (apply fit_rb'; constructor; (· repeat' (first | assumption | apply RB.opp | apply RB.times | apply RB.plus | apply RB.minus | apply RB.dr | apply RB.rod' | apply rises_rod | apply Int.le_refl | omega)); (· decide))), e_rig_rshift fa (show Fit (drA b c) by (apply fit_rb'; constructor; (· repeat' (first | assumption | apply RB.opp | apply RB.times | apply RB.plus | apply RB.minus | apply RB.dr | apply RB.rod' | apply rises_rod | apply Int.le_refl | omega)); (· decide))) hr (by (apply fit_rb'; constructor; (· repeat' (first | assumption | apply RB.opp | apply RB.times | apply RB.plus | apply RB.minus | apply RB.dr | apply RB.rod' | apply rises_rod | apply Int.le_refl | omega)); (· decide))), eq_dr_assoc ca cb cc hr hrb hd,
        e_rig_pull (show Fit (drA a b) by (apply fit_rb'; constructor; (· repeat' (first | assumption | apply RB.opp | apply RB.times | apply RB.plus | apply RB.minus | apply RB.dr | apply RB.rod' | apply rises_rod | apply Int.le_refl | omega)); (· decide))), e_rig_pull fa, e_rig_pull fb, dr_pull ra rb hr, hm, fz, e_rig_rshift fa f0 hr (by (apply fit_rb'; constructor; (· repeat' (first | assumption | apply RB.opp | apply RB.times | apply RB.plus | apply RB.minus | apply RB.dr | apply RB.rod' | apply rises_rod | apply Int.le_refl | omega)); (· decide))), eq_rod_r ca hr,
        e_rig_rshift f0 fa rises_rod (by (apply fit_rb'; constructor; (· repeat' (first | assumption | apply RB.opp | apply RB.times | apply RB.plus | apply RB.minus | apply RB.dr | apply RB.rod' | apply rises_rod | apply Int.le_refl | omega)); (· decide))), eq_rod_l ca, e_rig_add fa fb (by (apply fit_rb'; constructor; (· repeat' (first | assumption | apply RB.opp | apply RB.times | apply RB.plus | apply RB.minus | apply RB.dr | apply RB.rod' | apply rises_rod | apply Int.le_refl | omega)); (· decide))), e_rig_pull (show Fit (addA a b 1) by (apply fit_rb'; constructor; (· repeat' (first | assumption | apply RB.opp | apply RB.times | apply RB.plus | apply RB.minus | apply RB.dr | apply RB.rod' | apply rises_rod | apply Int.le_refl | omega)); (· decide))), pull_plus ca, e_rig_mul (show (-99 : Int) ≤ 1 by decide) (show (1 : Int) ≤ 99 by decide) fa (by (apply fit_rb'; constructor; (· repeat' (first | assumption | apply RB.opp | apply RB.times | apply RB.plus | apply RB.minus | apply RB.dr | apply RB.rod' | apply rises_rod | apply Int.le_refl | omega)); (· decide))), eq_one ca]
      exact ⟨_, _, .inl rfl, _, rfl, hs, _, _, _, _, _, _, _, rfl⟩
    · simp only [calmF_ap, le_line, lt_line, var_ap, c_ap, op_ap, un_ap, b_ap, and_ap, or_ap, not_ap, if_ap, andV_ap, orV_ap, ch_ap, nil_ap, cons_ap, star_ap, tup_ap, lst_ap, arm_ap, cb_ap, noPart_ap, part_ap, sl_ap, slL_ap, call_ap, callL_ap, mk_ap, fld_ap, meth_ap, callI_ap, get2_ap, dnew_ap, it_ap, itA_ap, yes_ap, next_ap, seq_ap, set_ap, setO_ap, drop_ap, ret_ap, retN_ap, brk_ap, cnt_ap, never_ap, ifS_ap, aug_ap, app_ap, ext_ap, pop_ap, par_ap, asg_ap, dset_ap, stF_ap, fldL_ap, see_f, see_g, okM_f, okM_g, okR_f, okR_g, okO_f, okO_g, hide_nil, hide_cons, setAll_cons, setAll_nil, wipe_nil, wipe_cons, runB_ap, runL_ap, startL_ap, startD_ap, out1_nx, out1_rt, dName_ap, dGTup_ap, dGLst_ap, dGCons_ap, dGNil_ap, dAdd_ap, dSub_ap, dMul_ap, dFdiv_ap, dMod_ap, dLt_ap, dLe_ap, dGt_ap, dGe_ap, bOf_ap, dNeg_ap, dNot_ap, eqS_int, eqS_bl, eqS_str, dInt1_ap, dInt1_bl, dMax2_ap, dMin2_ap, dAbs_ap, dSum_ap, dAny_ap, dAll_ap, dLen_l, dLen_t, dLen_a, dIx_l, dIx_t, dIx_a, dTup_ap, dLst_ap, dArm_ap, dList_l, dList_t, dTupl_ap, dTupA_ap, lstOf_ap, tupOf_t, tupOf_a, itemsOf_t, itemsOf_l, dSl_l, dSl_t, dSlL_ap, dCatL_ap, dIsN_ap, rng1_ap, rng2_ap, dRange_1, dRange_2, dRange3_ap, isC_y, il_int, il_bl, il_str, il_non, il_tup, il_lst, il_armD, il_ins, il_dic, il_ar, il_rig, Bool.false_eq_true, if_false, if_true, Res.bind_ok, Res.bind_bad, Res.out_ok, Res.out_bad, Res.calm_ok, List.map_cons, List.map_nil, List.length_cons, List.length_nil, Nat.reduceAdd, Nat.reduceSub, List.replicate, List.cons_append, List.nil_append, List.getElem?_cons_zero, List.getElem?_cons_succ, List.set_cons_succ, List.set_cons_zero, Bool.true_and, Bool.and_true, Bool.not_false, Bool.not_true, List.contains_nil, Option.bind_some, for_ap, lc_ap, Nat.reduceEqDiff, Nat.reduceLeDiff, Bool.false_xor, Bool.true_xor, and_self, decide_true, decide_false, List.lookup, List.all_cons, List.all_nil, List.contains_cons, Nat.reduceBEq, Bool.or_false, Bool.false_or, Bool.or_true, Bool.true_or, beq_self_eq_true, List.contains_nil, propR_ap, propR_rig, ownB_rig, ownT_rig, ownN_rig, eqI_rig, e_rig_fwd, lcG_nil, lcG_yesN, eq_self, lawStart_ap, in2, in3, in4, rg2, rg3, rg4, at0, at1, at2, il_tr, Bool.xor_true, Bool.xor_false, hf, hg, e_rig_add fb fc (by (apply fit_rb'; constructor; (· repeat' (first | assumption | apply RB.opp | apply RB.times | apply RB.plus | apply RB.minus | apply RB.dr | apply RB.rod' | apply rises_rod | apply Int.le_refl | omega)); (· decide))), e_rig_rshift fa (show Fit (addA b c 1) by (apply fit_rb'; constructor; (· repeat' (first | assumption | apply RB.opp | apply RB.times | apply RB.plus | apply RB.minus | apply RB.dr | apply RB.rod' | apply rises_rod | apply Int.le_refl | omega)); (· decide))) hr (by (apply fit_rb'; constructor; (· repeat' (first | assumption | apply RB.opp | apply RB.times | apply RB.plus | apply RB.minus | apply RB.dr | apply RB.rod' | apply rises_rod | apply Int.le_refl | omega)); (· decide))), e_rig_rshift fa fb hr (by (apply fit_rb'; constructor; (· repeat' (first | assumption | apply RB.opp | apply RB.times | apply RB.plus | apply RB.minus | apply RB.dr | apply RB.rod' | apply rises_rod | apply Int.le_refl | omega)); (· decide))), e_rig_rshift fa fc hr (by (apply fit_rb'; constructor; (· repeat' (first | assumption | apply RB.opp | apply RB.times | apply RB.plus | apply RB.minus | apply RB.dr | apply RB.rod' | apply rises_rod | apply Int.le_refl | omega)); (· decide))), e_rig_add (show Fit (drA a b) by (apply fit_rb'; constructor; (· repeat' (first | assumption | apply RB.opp | apply RB.times | apply RB.plus | apply RB.minus | apply RB.dr | apply RB.rod' | apply rises_rod | apply Int.le_refl | omega)); (· decide))) (show Fit (drA a c) by (apply fit_rb'; constructor; (· repeat' (first | assumption | apply RB.opp | apply RB.times | apply RB.plus | apply RB.minus | apply RB.dr | apply RB.rod' | apply rises_rod | apply Int.le_refl | omega)); (· decide))) (by (apply fit_rb'; constructor; (· repeat' (first | assumption | apply RB.opp | apply RB.times | apply RB.plus | apply RB.minus | apply RB.dr | apply RB.rod' | apply rises_rod | apply Int.le_refl | omega)); (· decide))), eq_dr_add ca cb cc hr,
        e_rig_mul (show -99 ≤ K by omega) (show K ≤ 99 by omega) fb (by (apply fit_rb'; constructor; (· repeat' (first | assumption | apply RB.opp | apply RB.times | apply RB.plus | apply RB.minus | apply RB.dr | apply RB.rod' | apply rises_rod | apply Int.le_refl | omega)); (· decide))), e_rig_rshift fa (show Fit (addA [] b K) by (apply fit_rb'; constructor; (· repeat' (first | assumption | apply RB.opp | apply RB.times | apply RB.plus | apply RB.minus | apply RB.dr | apply RB.rod' | apply rises_rod | apply Int.le_refl | omega)); (· decide))) hr (by (apply fit_rb'; constructor; (· repeat' (first | assumption | apply RB.opp | apply RB.times | apply RB.plus | apply RB.minus | apply RB.dr | apply RB.rod' | apply rises_rod | apply Int.le_refl | omega)); (· decide))), e_rig_mul (show -99 ≤ K by omega) (show K ≤ 99 by omega) (show Fit (drA a b) by (apply fit_rb'; constructor; (· repeat' (first | assumption | apply RB.opp | apply RB.times | apply RB.plus | apply RB.minus | apply RB.dr | apply RB.rod' | apply rises_rod | apply Int.le_refl | omega)); (· decide))) (by (apply fit_rb'; constructor; (· repeat' (first | assumption | apply RB.opp | apply RB.times | apply RB.plus | apply RB.minus | apply RB.dr | apply RB.rod' | apply rises_rod | apply Int.le_refl | omega)); (· decide))), eq_dr_mul ca cb hr,
        e_rig_pull (show Fit (drA a b) by (apply fit_rb'; constructor; (· repeat' (first | assumption | apply RB.opp | apply RB.times | apply RB.plus | apply RB.minus | apply RB.dr | apply RB.rod' | apply rises_rod | apply Int.le_refl | omega)); (· decide))), e_rig_pull fa, e_rig_pull fb, dr_pull ra rb hr, hm, fz, e_rig_rshift fa f0 hr (by (apply fit_rb'; constructor; (· repeat' (first | assumption | apply RB.opp | apply RB.times | apply RB.plus | apply RB.minus | apply RB.dr | apply RB.rod' | apply rises_rod | apply Int.le_refl | omega)); (· decide))), eq_rod_r ca hr,
        e_rig_rshift f0 fa rises_rod (by (apply fit_rb'; constructor; (· repeat' (first | assumption | apply RB.opp | apply RB.times | apply RB.plus | apply RB.minus | apply RB.dr | apply RB.rod' | apply rises_rod | apply Int.le_refl | omega)); (· decide))), eq_rod_l ca, e_rig_add fa fb (by (apply fit_rb'; constructor; (· repeat' (first | assumption | apply RB.opp | apply RB.times | apply RB.plus | apply RB.minus | apply RB.dr | apply RB.rod' | apply rises_rod | apply Int.le_refl | omega)); (· decide))), e_rig_pull (show Fit (addA a b 1) by (apply fit_rb'; constructor; (· repeat' (first | assumption | apply RB.opp | apply RB.times | apply RB.plus | apply RB.minus | apply RB.dr | apply RB.rod' | apply rises_rod | apply Int.le_refl | omega)); (· decide))), pull_plus ca, e_rig_mul (show (-99 : Int) ≤ 1 by decide) (show (1 : Int) ≤ 99 by decide) fa (by (apply fit_rb'; constructor; (· repeat' (first | assumption | apply RB.opp | apply RB.times | apply RB.plus | apply RB.minus | apply RB.dr | apply RB.rod' | apply rises_rod | apply Int.le_refl | omega)); (· decide))), eq_one ca]
      exact ⟨_, _, .inl rfl, _, rfl, hs, _, _, _, _, _, _, _, rfl⟩
  · simp only [calmF_ap, le_line, lt_line, var_ap, c_ap, op_ap, un_ap, b_ap, and_ap, or_ap, not_ap, if_ap, andV_ap, orV_ap, ch_ap, nil_ap, cons_ap, star_ap, tup_ap, lst_ap, arm_ap, cb_ap, noPart_ap, part_ap, sl_ap, slL_ap, call_ap, callL_ap, mk_ap, fld_ap, meth_ap, callI_ap, get2_ap, dnew_ap, it_ap, itA_ap, yes_ap, next_ap, seq_ap, set_ap, setO_ap, drop_ap, ret_ap, retN_ap, brk_ap, cnt_ap, never_ap, ifS_ap, aug_ap, app_ap, ext_ap, pop_ap, par_ap, asg_ap, dset_ap, stF_ap, fldL_ap, see_f, see_g, okM_f, okM_g, okR_f, okR_g, okO_f, okO_g, hide_nil, hide_cons, setAll_cons, setAll_nil, wipe_nil, wipe_cons, runB_ap, runL_ap, startL_ap, startD_ap, out1_nx, out1_rt, dName_ap, dGTup_ap, dGLst_ap, dGCons_ap, dGNil_ap, dAdd_ap, dSub_ap, dMul_ap, dFdiv_ap, dMod_ap, dLt_ap, dLe_ap, dGt_ap, dGe_ap, bOf_ap, dNeg_ap, dNot_ap, eqS_int, eqS_bl, eqS_str, dInt1_ap, dInt1_bl, dMax2_ap, dMin2_ap, dAbs_ap, dSum_ap, dAny_ap, dAll_ap, dLen_l, dLen_t, dLen_a, dIx_l, dIx_t, dIx_a, dTup_ap, dLst_ap, dArm_ap, dList_l, dList_t, dTupl_ap, dTupA_ap, lstOf_ap, tupOf_t, tupOf_a, itemsOf_t, itemsOf_l, dSl_l, dSl_t, dSlL_ap, dCatL_ap, dIsN_ap, rng1_ap, rng2_ap, dRange_1, dRange_2, dRange3_ap, isC_y, il_int, il_bl, il_str, il_non, il_tup, il_lst, il_armD, il_ins, il_dic, il_ar, il_rig, Bool.false_eq_true, if_false, if_true, Res.bind_ok, Res.bind_bad, Res.out_ok, Res.out_bad, Res.calm_ok, List.map_cons, List.map_nil, List.length_cons, List.length_nil, Nat.reduceAdd, Nat.reduceSub, List.replicate, List.cons_append, List.nil_append, List.getElem?_cons_zero, List.getElem?_cons_succ, List.set_cons_succ, List.set_cons_zero, Bool.true_and, Bool.and_true, Bool.not_false, Bool.not_true, List.contains_nil, Option.bind_some, for_ap, lc_ap, Nat.reduceEqDiff, Nat.reduceLeDiff, Bool.false_xor, Bool.true_xor, and_self, decide_true, decide_false, List.lookup, List.all_cons, List.all_nil, List.contains_cons, Nat.reduceBEq, Bool.or_false, Bool.false_or, Bool.or_true, Bool.true_or, beq_self_eq_true, List.contains_nil, propR_ap, propR_rig, ownB_rig, ownT_rig, ownN_rig, eqI_rig, e_rig_fwd, lcG_nil, lcG_yesN, eq_self, lawStart_ap, in2, in3, in4, rg2, rg3, rg4, at0, at1, at2, il_tr, Bool.xor_true, Bool.xor_false, hf, fz, e_rig_rshift f0 fa rises_rod (by (apply fit_rb'; constructor; (· repeat' (first | assumption | apply RB.opp | apply RB.times | apply RB.plus | apply RB.minus | apply RB.dr | apply RB.rod' | apply rises_rod | apply Int.le_refl | omega)); (· decide))), eq_rod_l ca, e_rig_add fa fb (by (apply fit_rb'; constructor; (· repeat' (first | assumption | apply RB.opp | apply RB.times | apply RB.plus | apply RB.minus | apply RB.dr | apply RB.rod' | apply rises_rod | apply Int.le_refl | omega)); (· decide))), e_rig_pull fa, e_rig_pull fb, e_rig_pull (show Fit (addA a b 1) by (apply fit_rb'; constructor; (· repeat' (first | assumption | apply RB.opp | apply RB.times | apply RB.plus | apply RB.minus | apply RB.dr | apply RB.rod' | apply rises_rod | apply Int.le_refl | omega)); (· decide))), pull_plus ca, e_rig_mul (show (-99 : Int) ≤ 1 by decide) (show (1 : Int) ≤ 99 by decide) fa (by (apply fit_rb'; constructor; (· repeat' (first | assumption | apply RB.opp | apply RB.times | apply RB.plus | apply RB.minus | apply RB.dr | apply RB.rod' | apply rises_rod | apply Int.le_refl | omega)); (· decide))), eq_one ca]
    exact ⟨_, _, .inl rfl, _, rfl, hs, _, _, _, _, _, _, _, rfl⟩
end Lw

namespace Lw
section
open PySem PySem.Spec PyProof.Rows L2 Sr Pv
variable {P : Program} {w : World} {K : PySem.W.Frag} {mg : Str → Option Value} {base : Heap}
theorem sc_L_random : FnScope ["_law_script", "_law_salt", "_law_seed", "_law_cell"] ["_law_script", "_law_salt"] (defScope s_L_random) := ⟨rfl, rfl, rfl, by decide +kernel, rfl, by decide +kernel, by decide +kernel⟩
theorem fn0_L_random (S : SayL K mg) : Fn P w K mg base CX0 1 "_law_random" ["_law_script", "_law_salt"] (spRandomX K) := by
  refine fn_mk s_L_random S 32 33 rfl rfl sc_L_random (fun _ _ _ _ _ _ us hl => match us, hl with | [_, _], _ => rfl) (fun vs H Q E h => ?_) (fun f cdv A outer s H vs Q E hr h => ?_)
  · obtain ⟨_, _, _, rfl, _⟩ := h; rfl
  · have hr0 := hr
    have hu := hu_of hr
    refine ⟨_, (pss_cons (ps_set (i := 2) sc_L_random.nd rfl (by first | exact Or.inl rfl | exact Or.inr rfl) (pv 1))
      (pss_cons (ps_for PassesOwn.never rfl (pi_list (pv 0)) (pg_name (i := 3) sc_L_random.nd rfl (by first | exact Or.inl rfl | exact Or.inr rfl)) (pss_one (ps_set (i := 2) sc_L_random.nd rfl (by first | exact Or.inl rfl | exact Or.inr rfl) (pe_op op_mod (pe_callTy call_int1 (by rfl) (S_int S) (by decide +kernel) (pa_cons (pe_op op_add (pe_op op_mul (pv 2) pe_int) (pe_callB call_abs (by rfl) (S_abs S) (by decide +kernel) (pa_cons (pv 3) pa_nil))) pa_nil)) pe_int))))
      (pss_one (ps_ret (pe_op op_cat (pe_lst (pa_cons (pv 2) (pa_cons pe_int pa_nil))) (pe_lc (own := [("_law_cell", 3)]) rfl sc_L_random.nd (pi_list (pv 0)) (blkOk_by (N := ["_law_script", "_law_salt", "_law_seed", "_law_cell"]) (sc := defScope s_L_random) (by decide +kernel)) (fun _ _ _ _ _ => (pg_name (i := 3) sc_L_random.nd rfl (by first | exact Or.inl rfl | exact Or.inr rfl))) (fun _ _ _ _ _ => (pts_one (pt_cmpR op_ge (pv 3) (pe_op op_pow pe_int pe_int) (nomark _)))) (fun _ _ _ _ _ => (pv 3)))))))), ?_⟩
    obtain ⟨a, ns, n, rfl, ha, hl, hn, k⟩ := h
    simp only [L2.start, List.map_cons, List.map_nil, List.length_cons, List.length_nil, List.replicate, Nat.reduceAdd, Nat.reduceSub, List.cons_append, List.nil_append]
    rw [tSeq_ap, tAsg_ap]
    simp only [tOp, tUn, tVar, tC, tAnd, tOr, tNot, tTest, tB, tCB, tCons, tNil, tBM, tBM0, tBML, tBML0, tAndV, tOrV, tNotV, tIf, tIfT, tChain, tPart, tNoPart, tSl, tTup, tLst, tYes, tIsN, tNotN, tCall, StX.tStar, rI, rI0, rU, rIxU, rLenU, rListU, rTupU, rSlLU, rIsK, kdOf, isK, rEq, rNe, rAppend, rExtend, rPopG, List.getLast?_map, List.getLast?_reverse, List.head?_cons, dropLast_rev, rPopAt, rSetL, rCat, gSub, gName, ipI, scal_int, scal_bl, scal_str, CMul, CDiv, CPow, List.getElem?_cons_succ, List.getElem?_cons_zero, List.set_cons_succ, List.set_cons_zero, List.append_nil, Option.some.injEq, V.int.injEq, V.bl.injEq, V.ref.injEq, V.str.injEq, HO.lst.injEq, HO.tup.injEq, List.cons.injEq, List.cons_ne_nil, and_true, true_and, exists_eq_left, exists_eq_left', exists_and_left, exists_eq', exists_eq, exists_const, reduceCtorEq, false_or, or_false, false_and, and_false, exists_false, seqH, List.length_cons, List.length_nil, List.length_map, List.length_reverse, cx_K, atI_tr1, atI_tr2, cutV_tr2, Option.map_some, upd_same, upd_upd]
    rw [tSeq_ap]
    refine ⟨_, rfl, a, rfl, ⟨_, ha⟩, for_it (walk_list (xs := ns.map V.int)) (RaW H a n) ⟨n, _, rfl, hn, rfl⟩ (fun i σ' H' _ p => by obtain ⟨_, _, _, _, rfl⟩ := p; exact ha) ?_ ?_⟩
    · rintro i x σ' H' H2 hi ⟨z, u, rfl, hz, rfl⟩ ⟨rfl, hx⟩
      rw [List.length_map] at hi
      rw [List.getElem?_map, List.getElem?_eq_getElem hi] at hx
      cases hx
      simp only [gName]
      rw [tAsg_ap]
      simp only [tOp, tUn, tVar, tC, tAnd, tOr, tNot, tTest, tB, tCB, tCons, tNil, tBM, tBM0, tBML, tBML0, tAndV, tOrV, tNotV, tIf, tIfT, tChain, tPart, tNoPart, tSl, tTup, tLst, tYes, tIsN, tNotN, tCall, StX.tStar, rI, rI0, rU, rIxU, rLenU, rListU, rTupU, rSlLU, rIsK, kdOf, isK, rEq, rNe, rAppend, rExtend, rPopG, List.getLast?_map, List.getLast?_reverse, List.head?_cons, dropLast_rev, rPopAt, rSetL, rCat, gSub, gName, ipI, scal_int, scal_bl, scal_str, CMul, CDiv, CPow, List.getElem?_cons_succ, List.getElem?_cons_zero, List.set_cons_succ, List.set_cons_zero, List.append_nil, Option.some.injEq, V.int.injEq, V.bl.injEq, V.ref.injEq, V.str.injEq, HO.lst.injEq, HO.tup.injEq, List.cons.injEq, List.cons_ne_nil, and_true, true_and, exists_eq_left, exists_eq_left', exists_and_left, exists_eq', exists_eq, exists_const, reduceCtorEq, false_or, or_false, false_and, and_false, exists_false, seqH, List.length_cons, List.length_nil, List.length_map, List.length_reverse, cx_K, atI_tr1, atI_tr2, cutV_tr2, Option.map_some, upd_same, upd_upd]
      exact ⟨.inr ⟨by decide, by decide⟩, by decide, _, _, rfl, Int.emod_nonneg _ (by decide), rfl⟩
    · rintro σ' H' ⟨z, u, rfl, hz, rfl⟩
      dsimp only
      rw [tRet_ap]
      simp only [tOp, tLst, tCons, tNil, tVar, tC, List.getElem?_cons_zero, List.getElem?_cons_succ, Option.some.injEq, exists_eq_left']
      refine ⟨by simp [sizeLine], fun p hp => ?_⟩
      have e1 : Same H' (upd H' p (.lst [.int z, .int 0])) := same_upd hp
      have hp1 : upd H' p (.lst [.int z, .int 0]) p = some (.lst [.int z, .int 0]) := upd_same
      have ha1 := e1.seq ha
      generalize upd H' p (.lst [.int z, .int 0]) = H1 at *
      refine ⟨_, rfl, a, rfl, ⟨_, ha1⟩, fun D hD => lc_it (walk_list (xs := ns.map V.int)) (RaC H1 D) ⟨same_upd hD, [], upd_same, by simp, by simp⟩ (fun i H' _ p => p.1.seq ha1) ?_ ?_⟩
      · rintro i x H2 H3 hi ⟨e2, acc, hacc, hlen, hpos⟩ ⟨rfl, hx⟩
        rw [List.length_map] at hi
        rw [List.getElem?_map, List.getElem?_eq_getElem hi] at hx
        cases hx
        simp only [wipe, List.map_cons, List.map_nil, tOp, tUn, tVar, tC, tAnd, tOr, tNot, tTest, tB, tCB, tCons, tNil, tBM, tBM0, tBML, tBML0, tAndV, tOrV, tNotV, tIf, tIfT, tChain, tPart, tNoPart, tSl, tTup, tLst, tYes, tIsN, tNotN, tCall, StX.tStar, rI, rI0, rU, rIxU, rLenU, rListU, rTupU, rSlLU, rIsK, kdOf, isK, rEq, rNe, rAppend, rExtend, rPopG, List.getLast?_map, List.getLast?_reverse, List.head?_cons, dropLast_rev, rPopAt, rSetL, rCat, gSub, gName, ipI, scal_int, scal_bl, scal_str, CMul, CDiv, CPow, List.getElem?_cons_succ, List.getElem?_cons_zero, List.set_cons_succ, List.set_cons_zero, List.append_nil, Option.some.injEq, V.int.injEq, V.bl.injEq, V.ref.injEq, V.str.injEq, HO.lst.injEq, HO.tup.injEq, List.cons.injEq, List.cons_ne_nil, and_true, true_and, exists_eq_left, exists_eq_left', exists_and_left, exists_eq', exists_eq, exists_const, reduceCtorEq, false_or, or_false, false_and, and_false, exists_false, seqH, List.length_cons, List.length_nil, List.length_map, List.length_reverse, cx_K, atI_tr1, atI_tr2, cutV_tr2, Option.map_some, upd_same, upd_upd]
        refine ⟨by decide, ?_⟩
        split
        · rename_i c
          have c' : (10 : Int) ^ (18 : Int).toNat ≤ ns[i] := of_decide_eq_true c
          simp only [tOp, tUn, tVar, tC, tAnd, tOr, tNot, tTest, tB, tCB, tCons, tNil, tBM, tBM0, tBML, tBML0, tAndV, tOrV, tNotV, tIf, tIfT, tChain, tPart, tNoPart, tSl, tTup, tLst, tYes, tIsN, tNotN, tCall, StX.tStar, rI, rI0, rU, rIxU, rLenU, rListU, rTupU, rSlLU, rIsK, kdOf, isK, rEq, rNe, rAppend, rExtend, rPopG, List.getLast?_map, List.getLast?_reverse, List.head?_cons, dropLast_rev, rPopAt, rSetL, rCat, gSub, gName, ipI, scal_int, scal_bl, scal_str, CMul, CDiv, CPow, List.getElem?_cons_succ, List.getElem?_cons_zero, List.set_cons_succ, List.set_cons_zero, List.append_nil, Option.some.injEq, V.int.injEq, V.bl.injEq, V.ref.injEq, V.str.injEq, HO.lst.injEq, HO.tup.injEq, List.cons.injEq, List.cons_ne_nil, and_true, true_and, exists_eq_left, exists_eq_left', exists_and_left, exists_eq', exists_eq, exists_const, reduceCtorEq, false_or, or_false, false_and, and_false, exists_false, seqH, List.length_cons, List.length_nil, List.length_map, List.length_reverse, cx_K, atI_tr1, atI_tr2, cutV_tr2, Option.map_some, upd_same, upd_upd, hacc]
          refine ⟨by simp [sizeLine]; omega, e2.updN hD, acc ++ [ns[i]], by rw [upd_same]; simp, by simp; omega, ?_⟩
          intro x hx
          rcases List.mem_append.mp hx with hx | hx
          · exact hpos x hx
          · have : x = ns[i] := by simpa using hx
            rw [this]
            have : (0 : Int) ≤ 10 ^ (18 : Int).toNat := by decide
            omega
        · exact ⟨e2, acc, hacc, by omega, hpos⟩
      · rintro H2 ⟨e2, acc, hacc, hlen, hpos⟩
        rw [List.length_map] at hlen
        refine ⟨p, D, _, _, rfl, rfl, e2 _ _ hp1, hacc, by simp [sizeLine]; omega, fun q hq => ?_⟩
        refine k q (z :: 0 :: acc) _ ((e1.trans e2).new hq) ((e1.trans e2).free hq) ?_ (stOk_cons.mpr ⟨hz, by decide, hpos⟩)
        rw [upd_same]
        rfl
theorem fn_L_random (S : SayL K mg) : Fn P w K mg base CX0 1 "_law_random" ["_law_script", "_law_salt"] (spRandomX K) := fn0_L_random S
theorem sc_L_below : FnScope ["_law_d", "_law_limit", "_law_result"] ["_law_d", "_law_limit"] (defScope s_L_below) := ⟨rfl, rfl, rfl, by decide +kernel, rfl, by decide +kernel, by decide +kernel⟩
theorem fn0_L_below (S : SayL K mg) : Fn P w K mg base CX0 1 "_law_below" ["_law_d", "_law_limit"] spBelowX := by
  refine fn_mk s_L_below S 33 34 rfl rfl sc_L_below (fun _ _ _ _ _ _ us hl => match us, hl with | [_, _], _ => rfl) (fun vs H Q E h => ?_) (fun f cdv A outer s H vs Q E hr h => ?_)
  · obtain ⟨_, _, _, rfl, _⟩ := h; rfl
  · have hr0 := hr
    have hu := hu_of hr
    refine ⟨_, (pss_cut (ps_if (PW.pt (pw_and (pt_cmpR op_eq (pe_ix ix_u (pv 0) pe_int (fun _ _ => rfl)) pe_int (nomark _)) (pw_and1 (pt_cmpR op_gt (pe_callB call_len_u (by rfl) (S_len S) (by decide +kernel) (pa_cons (pv 0) pa_nil)) pe_int (nomark _))))) (pss_one (ps_asg (pe_bmL PySem.F.slot_list_pop PySem.F.type_list_pop mt_popAt (pv 0) (pa_cons pe_int pa_nil)) (pg_sub (pv 0) pe_int set_list))) pss_nil)
      (pss_cons (ps_if (pt_cmpR op_gt (pe_ix ix_u (pv 0) pe_int (fun _ _ => rfl)) pe_int (nomark _)) (pss_cons (ps_set (i := 2) sc_L_below.nd rfl (by first | exact Or.inl rfl | exact Or.inr rfl) (pe_op op_mod (pe_callTy call_int1 (by rfl) (S_int S) (by decide +kernel) (pa_cons (pe_ix ix_u (pv 0) pe_int (fun _ _ => rfl)) pa_nil)) (pv 1)))
      (pss_cons (ps_asg (pe_op op_fdiv (pe_ix ix_u (pv 0) pe_int (fun _ _ => rfl)) (pv 1)) (pg_sub (pv 0) pe_int set_list))
      (pss_one (ps_ret (pv 2))))) pss_nil)
      (pss_cons (ps_asg (pe_op op_mod (pe_callTy call_int1 (by rfl) (S_int S) (by decide +kernel) (pa_cons (pe_op op_add (pe_op op_mul (pe_ix ix_u (pv 0) pe_int (fun _ _ => rfl)) pe_int) pe_int) pa_nil)) pe_int) (pg_sub (pv 0) pe_int set_list))
      (pss_one (ps_ret (pe_op op_mod (pe_callTy call_int1 (by rfl) (S_int S) (by decide +kernel) (pa_cons (pe_op op_fdiv (pe_ix ix_u (pv 0) pe_int (fun _ _ => rfl)) pe_int) pa_nil)) (pv 1))))))), ?_⟩
    obtain ⟨d, st, n, rfl, hd, hst, h0, h1, k⟩ := h
    obtain ⟨a, b, r, rfl⟩ : ∃ a b r, st = a :: b :: r := by
      match st, hst with
      | a :: b :: r, _ => exact ⟨a, b, r, rfl⟩
    have e1 : ∀ m : Nat, ixN (m + 1 + 1) 1 = some 1 := fun m => by unfold ixN; rw [if_pos (by omega), if_pos (by omega)]; rfl
    have e0 : ∀ m : Nat, ixN (m + 1 + 1) 0 = some 0 := fun m => by unfold ixN; rw [if_pos (by omega), if_pos (by omega)]; rfl
    have e2 : ∀ m : Nat, seqIndex? 2 (m + 1 + 1 + 1) = some 2 := fun m => by unfold seqIndex?; simp; omega
    simp only [L2.start, List.map_cons, List.map_nil, List.length_cons, List.length_nil, List.replicate, Nat.reduceAdd, Nat.reduceSub, List.cons_append, List.nil_append]
    refine ⟨fun σ' H' => σ' = [some (.ref d), some (.int n), none] ∧ H' = upd H d (.lst ((a :: (midB b r).1 :: (midB b r).2).map V.int)), ?_, ?_⟩
    · rw [tIfS_ap]
      simp only [tOp, tUn, tVar, tC, tAnd, tOr, tNot, tTest, tB, tCB, tCons, tNil, tBM, tBM0, tBML, tBML0, tAndV, tOrV, tNotV, tIf, tIfT, tChain, tPart, tNoPart, tSl, tTup, tLst, tYes, tIsN, tNotN, tCall, StX.tStar, rI, rI0, rU, rIxU, rLenU, rListU, rTupU, rSlLU, rIsK, kdOf, isK, rEq, rNe, rAppend, rExtend, rPopG, List.getLast?_map, List.getLast?_reverse, List.head?_cons, dropLast_rev, rPopAt, rSetL, rCat, gSub, gName, ipI, scal_int, scal_bl, scal_str, CMul, CDiv, CPow, List.getElem?_cons_succ, List.getElem?_cons_zero, List.set_cons_succ, List.set_cons_zero, List.append_nil, Option.some.injEq, V.int.injEq, V.bl.injEq, V.ref.injEq, V.str.injEq, HO.lst.injEq, HO.tup.injEq, List.cons.injEq, List.cons_ne_nil, and_true, true_and, exists_eq_left, exists_eq_left', exists_and_left, exists_eq', exists_eq, exists_const, reduceCtorEq, false_or, or_false, false_and, and_false, exists_false, seqH, List.length_cons, List.length_nil, List.length_map, List.length_reverse, cx_K, atI_tr1, atI_tr2, cutV_tr2, Option.map_some, upd_same, upd_upd, hd, List.map_cons, atI_one, decide_eq_true_eq]
      by_cases hb0 : b = 0
      · rw [if_pos hb0]
        cases r with
        | nil =>
          rw [if_neg (by simp), tNext_ap]
          refine ⟨rfl, ?_⟩
          simp only [midB, hb0, if_true]
          rw [hb0] at hd
          exact (upd_self H d).symm
        | cons c r =>
          rw [if_pos (by simp; omega), tAsg_ap]
          simp only [tOp, tUn, tVar, tC, tAnd, tOr, tNot, tTest, tB, tCB, tCons, tNil, tBM, tBM0, tBML, tBML0, tAndV, tOrV, tNotV, tIf, tIfT, tChain, tPart, tNoPart, tSl, tTup, tLst, tYes, tIsN, tNotN, tCall, StX.tStar, rI, rI0, rU, rIxU, rLenU, rListU, rTupU, rSlLU, rIsK, kdOf, isK, rEq, rNe, rAppend, rExtend, rPopG, List.getLast?_map, List.getLast?_reverse, List.head?_cons, dropLast_rev, rPopAt, rSetL, rCat, gSub, gName, ipI, scal_int, scal_bl, scal_str, CMul, CDiv, CPow, List.getElem?_cons_succ, List.getElem?_cons_zero, List.set_cons_succ, List.set_cons_zero, List.append_nil, Option.some.injEq, V.int.injEq, V.bl.injEq, V.ref.injEq, V.str.injEq, HO.lst.injEq, HO.tup.injEq, List.cons.injEq, List.cons_ne_nil, and_true, true_and, exists_eq_left, exists_eq_left', exists_and_left, exists_eq', exists_eq, exists_const, reduceCtorEq, false_or, or_false, false_and, and_false, exists_false, seqH, List.length_cons, List.length_nil, List.length_map, List.length_reverse, cx_K, atI_tr1, atI_tr2, cutV_tr2, Option.map_some, upd_same, upd_upd, hd, List.map_cons, e1, e2, List.eraseIdx_cons_succ, List.eraseIdx_cons_zero]
          refine ⟨by decide, by decide, ?_⟩
          simp [midB, hb0]
      · rw [if_neg hb0, if_neg id, tNext_ap]
        refine ⟨rfl, ?_⟩
        simp only [midB, hb0, if_false]
        exact (upd_self H d).symm
    · rintro σ' H' ⟨rfl, rfl⟩
      have hk : ∀ x y, below (a :: b :: r) n = (x, y) → Q (.int x) (upd H d (.lst (y.map V.int))) := fun x y e => by rw [e] at k; exact k
      have ek : below (a :: b :: r) n = if 0 < (midB b r).1 then ((midB b r).1 % n, a :: (midB b r).1 / n :: (midB b r).2) else (((a * 48271 + 11) % 2147483647 / 64) % n, (a * 48271 + 11) % 2147483647 :: (midB b r).1 :: (midB b r).2) := rfl
      generalize (midB b r).1 = b1 at *
      generalize (midB b r).2 = r1 at *
      rw [tSeq_ap, tIfS_ap]
      simp only [tOp, tUn, tVar, tC, tAnd, tOr, tNot, tTest, tB, tCB, tCons, tNil, tBM, tBM0, tBML, tBML0, tAndV, tOrV, tNotV, tIf, tIfT, tChain, tPart, tNoPart, tSl, tTup, tLst, tYes, tIsN, tNotN, tCall, StX.tStar, rI, rI0, rU, rIxU, rLenU, rListU, rTupU, rSlLU, rIsK, kdOf, isK, rEq, rNe, rAppend, rExtend, rPopG, List.getLast?_map, List.getLast?_reverse, List.head?_cons, dropLast_rev, rPopAt, rSetL, rCat, gSub, gName, ipI, scal_int, scal_bl, scal_str, CMul, CDiv, CPow, List.getElem?_cons_succ, List.getElem?_cons_zero, List.set_cons_succ, List.set_cons_zero, List.append_nil, Option.some.injEq, V.int.injEq, V.bl.injEq, V.ref.injEq, V.str.injEq, HO.lst.injEq, HO.tup.injEq, List.cons.injEq, List.cons_ne_nil, and_true, true_and, exists_eq_left, exists_eq_left', exists_and_left, exists_eq', exists_eq, exists_const, reduceCtorEq, false_or, or_false, false_and, and_false, exists_false, seqH, List.length_cons, List.length_nil, List.length_map, List.length_reverse, cx_K, atI_tr1, atI_tr2, cutV_tr2, Option.map_some, upd_same, upd_upd, List.map_cons, atI_one, decide_eq_true_eq]
      split
      · rename_i hp
        rw [if_pos hp] at ek
        rw [tSeq_ap, tAsg_ap]
        simp only [tOp, tUn, tVar, tC, tAnd, tOr, tNot, tTest, tB, tCB, tCons, tNil, tBM, tBM0, tBML, tBML0, tAndV, tOrV, tNotV, tIf, tIfT, tChain, tPart, tNoPart, tSl, tTup, tLst, tYes, tIsN, tNotN, tCall, StX.tStar, rI, rI0, rU, rIxU, rLenU, rListU, rTupU, rSlLU, rIsK, kdOf, isK, rEq, rNe, rAppend, rExtend, rPopG, List.getLast?_map, List.getLast?_reverse, List.head?_cons, dropLast_rev, rPopAt, rSetL, rCat, gSub, gName, ipI, scal_int, scal_bl, scal_str, CMul, CDiv, CPow, List.getElem?_cons_succ, List.getElem?_cons_zero, List.set_cons_succ, List.set_cons_zero, List.append_nil, Option.some.injEq, V.int.injEq, V.bl.injEq, V.ref.injEq, V.str.injEq, HO.lst.injEq, HO.tup.injEq, List.cons.injEq, List.cons_ne_nil, and_true, true_and, exists_eq_left, exists_eq_left', exists_and_left, exists_eq', exists_eq, exists_const, reduceCtorEq, false_or, or_false, false_and, and_false, exists_false, seqH, List.length_cons, List.length_nil, List.length_map, List.length_reverse, cx_K, atI_tr1, atI_tr2, cutV_tr2, Option.map_some, upd_same, upd_upd, List.map_cons, atI_one]
        refine ⟨h0, ?_⟩
        rw [tSeq_ap, tAsg_ap]
        simp only [tOp, tUn, tVar, tC, tAnd, tOr, tNot, tTest, tB, tCB, tCons, tNil, tBM, tBM0, tBML, tBML0, tAndV, tOrV, tNotV, tIf, tIfT, tChain, tPart, tNoPart, tSl, tTup, tLst, tYes, tIsN, tNotN, tCall, StX.tStar, rI, rI0, rU, rIxU, rLenU, rListU, rTupU, rSlLU, rIsK, kdOf, isK, rEq, rNe, rAppend, rExtend, rPopG, List.getLast?_map, List.getLast?_reverse, List.head?_cons, dropLast_rev, rPopAt, rSetL, rCat, gSub, gName, ipI, scal_int, scal_bl, scal_str, CMul, CDiv, CPow, List.getElem?_cons_succ, List.getElem?_cons_zero, List.set_cons_succ, List.set_cons_zero, List.append_nil, Option.some.injEq, V.int.injEq, V.bl.injEq, V.ref.injEq, V.str.injEq, HO.lst.injEq, HO.tup.injEq, List.cons.injEq, List.cons_ne_nil, and_true, true_and, exists_eq_left, exists_eq_left', exists_and_left, exists_eq', exists_eq, exists_const, reduceCtorEq, false_or, or_false, false_and, and_false, exists_false, seqH, List.length_cons, List.length_nil, List.length_map, List.length_reverse, cx_K, atI_tr1, atI_tr2, cutV_tr2, Option.map_some, upd_same, upd_upd, List.map_cons, atI_one, e1]
        refine ⟨⟨h0, h1⟩, ?_⟩
        rw [tRet_ap]
        simp only [tOp, tUn, tVar, tC, tAnd, tOr, tNot, tTest, tB, tCB, tCons, tNil, tBM, tBM0, tBML, tBML0, tAndV, tOrV, tNotV, tIf, tIfT, tChain, tPart, tNoPart, tSl, tTup, tLst, tYes, tIsN, tNotN, tCall, StX.tStar, rI, rI0, rU, rIxU, rLenU, rListU, rTupU, rSlLU, rIsK, kdOf, isK, rEq, rNe, rAppend, rExtend, rPopG, List.getLast?_map, List.getLast?_reverse, List.head?_cons, dropLast_rev, rPopAt, rSetL, rCat, gSub, gName, ipI, scal_int, scal_bl, scal_str, CMul, CDiv, CPow, List.getElem?_cons_succ, List.getElem?_cons_zero, List.set_cons_succ, List.set_cons_zero, List.append_nil, Option.some.injEq, V.int.injEq, V.bl.injEq, V.ref.injEq, V.str.injEq, HO.lst.injEq, HO.tup.injEq, List.cons.injEq, List.cons_ne_nil, and_true, true_and, exists_eq_left, exists_eq_left', exists_and_left, exists_eq', exists_eq, exists_const, reduceCtorEq, false_or, or_false, false_and, and_false, exists_false, seqH, List.length_cons, List.length_nil, List.length_map, List.length_reverse, cx_K, atI_tr1, atI_tr2, cutV_tr2, Option.map_some, upd_same, upd_upd]
        exact hk _ _ ek
      · rename_i hp
        rw [if_neg hp] at ek
        rw [tNext_ap]
        dsimp only
        rw [tSeq_ap, tAsg_ap]
        simp only [tOp, tUn, tVar, tC, tAnd, tOr, tNot, tTest, tB, tCB, tCons, tNil, tBM, tBM0, tBML, tBML0, tAndV, tOrV, tNotV, tIf, tIfT, tChain, tPart, tNoPart, tSl, tTup, tLst, tYes, tIsN, tNotN, tCall, StX.tStar, rI, rI0, rU, rIxU, rLenU, rListU, rTupU, rSlLU, rIsK, kdOf, isK, rEq, rNe, rAppend, rExtend, rPopG, List.getLast?_map, List.getLast?_reverse, List.head?_cons, dropLast_rev, rPopAt, rSetL, rCat, gSub, gName, ipI, scal_int, scal_bl, scal_str, CMul, CDiv, CPow, List.getElem?_cons_succ, List.getElem?_cons_zero, List.set_cons_succ, List.set_cons_zero, List.append_nil, Option.some.injEq, V.int.injEq, V.bl.injEq, V.ref.injEq, V.str.injEq, HO.lst.injEq, HO.tup.injEq, List.cons.injEq, List.cons_ne_nil, and_true, true_and, exists_eq_left, exists_eq_left', exists_and_left, exists_eq', exists_eq, exists_const, reduceCtorEq, false_or, or_false, false_and, and_false, exists_false, seqH, List.length_cons, List.length_nil, List.length_map, List.length_reverse, cx_K, atI_tr1, atI_tr2, cutV_tr2, Option.map_some, upd_same, upd_upd, List.map_cons, atI_zero, e0]
        refine ⟨.inr ⟨by decide, by decide⟩, by decide, ?_⟩
        rw [tRet_ap]
        simp only [tOp, tUn, tVar, tC, tAnd, tOr, tNot, tTest, tB, tCB, tCons, tNil, tBM, tBM0, tBML, tBML0, tAndV, tOrV, tNotV, tIf, tIfT, tChain, tPart, tNoPart, tSl, tTup, tLst, tYes, tIsN, tNotN, tCall, StX.tStar, rI, rI0, rU, rIxU, rLenU, rListU, rTupU, rSlLU, rIsK, kdOf, isK, rEq, rNe, rAppend, rExtend, rPopG, List.getLast?_map, List.getLast?_reverse, List.head?_cons, dropLast_rev, rPopAt, rSetL, rCat, gSub, gName, ipI, scal_int, scal_bl, scal_str, CMul, CDiv, CPow, List.getElem?_cons_succ, List.getElem?_cons_zero, List.set_cons_succ, List.set_cons_zero, List.append_nil, Option.some.injEq, V.int.injEq, V.bl.injEq, V.ref.injEq, V.str.injEq, HO.lst.injEq, HO.tup.injEq, List.cons.injEq, List.cons_ne_nil, and_true, true_and, exists_eq_left, exists_eq_left', exists_and_left, exists_eq', exists_eq, exists_const, reduceCtorEq, false_or, or_false, false_and, and_false, exists_false, seqH, List.length_cons, List.length_nil, List.length_map, List.length_reverse, cx_K, atI_tr1, atI_tr2, cutV_tr2, Option.map_some, upd_same, upd_upd, List.map_cons, atI_zero]
        exact ⟨⟨by decide, by decide⟩, h0, hk _ _ ek⟩
theorem fn_L_below (S : SayL K mg) : Fn P w K mg base (L2.CX P w) 1 "_law_below" ["_law_d", "_law_limit"] (spL K 2 f_L_below) := (fn0_L_below S).cx0.imp below_imp
theorem sc_Rig_eq : FnScope ["self", "other"] ["self", "other"] (defScope s_Rig_eq) := ⟨rfl, rfl, rfl, by decide +kernel, rfl, by decide +kernel, by decide +kernel⟩
theorem fn_Rig_eq (S : SayL K mg) : MeB P w K mg base (L2.CX P w) 1 (He.ga K "Rig") "__eq__" ["self", "other"] (spP K 2 f_Rig_eq) := by
  refine (meP (own := []) (own' := []) (g := m_Rig_eq) s_Rig_eq S 28 79 rfl rfl sc_Rig_eq (fun _ _ _ _ _ _ us hl => match us, hl with | [_, _], _ => rfl) rfl (by decide) (fun f cdv A outer s H E hr => ?_)).imp pure_imp
  have hu := hu_of hr
  exact (sts_one (st_ret (ev_and (ev_b (c_isC (C_Rig S) (X_is_Rig S)) (by rfl) (S_isinstance S) (by decide +kernel) (eva_cons (ev_var (pv 1)) (eva_cons (ev_cst (pe_glob (v := .ref _) rfl (S_Rig S) rfl) (fun _ => .cls _)) eva_nil))) (ev_one (ev_cmp (o_eqD hr.units) (ev_fld (C_Rig S) (N_Rig_told S) (ev_var (pv 0))) (ev_fld (C_Rig S) (N_Rig_told S) (ev_var (pv 1))) (nomark _))))))
theorem sc_is_int : FnScope ["value"] ["value"] (defScope s_is_int) := ⟨rfl, rfl, rfl, by decide +kernel, rfl, by decide +kernel, by decide +kernel⟩
theorem fn_is_int (S : SayL K mg) : Fn P w K mg base (L2.CX P w) 1 "is_int" ["value"] (spP K 1 f_is_int) := by
  refine (fnP (own := []) (own' := []) (g := m_is_int) s_is_int S 1 10 rfl rfl sc_is_int (fun _ _ _ _ _ _ us hl => match us, hl with | [_], _ => rfl) rfl (by decide) (fun f cdv A outer s H E hr => ?_)).imp pure_imp
  have hu := hu_of hr
  exact (sts_one (st_ret (ev_and (ev_b (c_isK Kd.int (by decide)) (by rfl) (S_isinstance S) (by decide +kernel) (eva_cons (ev_var (pv 0)) (eva_cons (ev_cst (pe_bltn (v := .ty "int") rfl (S_int S) (by decide +kernel) rfl) (fun _ => .ty _)) eva_nil))) (ev_one (ev_not (ev_b (c_isK Kd.bl (by decide)) (by rfl) (S_isinstance S) (by decide +kernel) (eva_cons (ev_var (pv 0)) (eva_cons (ev_cst (pe_bltn (v := .ty "bool") rfl (S_bool S) (by decide +kernel) rfl) (fun _ => .ty _)) eva_nil))))))))
theorem sc_is_int_in : FnScope ["value", "low", "high"] ["value", "low", "high"] (defScope s_is_int_in) := ⟨rfl, rfl, rfl, by decide +kernel, rfl, by decide +kernel, by decide +kernel⟩
theorem fn_is_int_in (S : SayL K mg) : Fn P w K mg base (L2.CX P w) 3 "is_int_in" ["value", "low", "high"] (spP K 3 f_is_int_in) := by
  have F_is_int := fn_is_int (P := P) (w := w) (base := base) S
  refine (fnP (own := []) (own' := []) (g := m_is_int_in) s_is_int_in S 2 11 rfl rfl sc_is_int_in (fun _ _ _ _ _ _ us hl => match us, hl with | [_, _, _], _ => rfl) rfl (by decide) (fun f cdv A outer s H E hr => ?_)).imp pure_imp
  have hu := hu_of hr
  have hr_is_int : Room 1 _ := hr.mono (by decide)
  have hr1_is_int : Room 2 _ := hr.mono (by decide)
  exact (sts_one (st_ret (ev_and (ev_fn F_is_int hr_is_int (pass_x rfl rfl rfl rfl) (eva_cons (ev_var (pv 0)) eva_nil)) (ev_one (ev_chain o_le o_le (ev_var (pv 1)) (ev_var (pv 0)) (ev_var (pv 2)))))))
theorem sc_Rig_init : FnScope ["self", "arms"] ["self", "arms"] (defScope s_Rig_init) := ⟨rfl, rfl, rfl, by decide +kernel, rfl, by decide +kernel, by decide +kernel⟩
theorem fn_Rig_init (S : SayL K mg) : MeB P w K mg base (L2.CX P w) 1 (He.ga K "Rig") "__init__" ["self", "arms"] (spL K 2 f_Rig_init) := by
  refine meL (own := []) (own' := []) (g := m_Rig_init) s_Rig_init S 16 67 rfl rfl sc_Rig_init (fun _ _ _ _ _ _ us hl => match us, hl with | [_, _], _ => rfl) rfl (by decide) (by decide) (fun f cdv A outer s H E hr => ?_)
  have hu := hu_of hr
  exact (sts_one (st_stF .f (i := 0) (C_Rig S) (N_Rig_told S) (pv 0) (ev_var (pv 1))))
theorem sc_rod : FnScope ["slack"] ["slack"] (defScope s_rod) := ⟨rfl, rfl, rfl, by decide +kernel, rfl, by decide +kernel, by decide +kernel⟩
theorem fn_rod (S : SayL K mg) : Fn P w K mg base (L2.CX P w) 5 "rod" ["slack"] (spP K 1 f_rod) := by
  have F_is_int_in := fn_is_int_in (P := P) (w := w) (base := base) S
  have F_Rig_init := fn_Rig_init (P := P) (w := w) (base := base) S
  refine (fnP (own := []) (own' := []) (g := m_rod) s_rod S 31 32 rfl rfl sc_rod (fun _ _ _ _ _ _ us hl => match us, hl with | [_], _ => rfl) rfl (by decide) (fun f cdv A outer s H E hr => ?_)).imp pure_imp
  have hu := hu_of hr
  have hr_is_int_in : Room 3 _ := hr.mono (by decide)
  have hr1_is_int_in : Room 4 _ := hr.mono (by decide)
  have hr_Rig_init : Room 1 _ := hr.mono (by decide)
  have hr1_Rig_init : Room 2 _ := hr.mono (by decide)
  exact (sts_cons (st_if .f (evt_not (evt_val (ev_fn F_is_int_in hr_is_int_in (pass_x rfl rfl rfl rfl) (eva_cons (ev_var (pv 0)) (eva_cons (ev_int pe_int) (eva_cons (ev_int (pe_gint (S_MAX_SLACK S))) eva_nil)))))) (sts_one st_never) sts_nil)
      (sts_one (st_ret (ev_mk F_Rig_init (K_Rig S).makes (K_Rig S).kp (S_Rig S) hr1_Rig_init (pass_x rfl rfl rfl rfl) (eva_cons (ev_arm (eva_cons (ev_tup (eva_cons (ev_var (pv 0)) (eva_cons (ev_int pe_int) eva_nil))) eva_nil)) eva_nil)))))
theorem sc_never_falls : FnScope ["arms", "found", "total", "slack", "arm"] ["arms"] (defScope s_never_falls) := ⟨rfl, rfl, rfl, by decide +kernel, rfl, by decide +kernel, by decide +kernel⟩
theorem fn_never_falls (S : SayL K mg) : Fn P w K mg base (L2.CX P w) 1 "never_falls" ["arms"] (spP K 1 f_never_falls) := by
  refine (fnP (own := []) (own' := []) (g := m_never_falls) s_never_falls S 10 23 rfl rfl sc_never_falls (fun _ _ _ _ _ _ us hl => match us, hl with | [_], _ => rfl) rfl (by decide) (fun f cdv A outer s H E hr => ?_)).imp pure_imp
  have hu := hu_of hr
  exact (sts_cons (st_set .f (i := 1) sc_never_falls.nd rfl (by first | exact Or.inl rfl | exact Or.inr rfl) (ev_bl pe_bl))
      (sts_cons (st_set .f (i := 2) sc_never_falls.nd rfl (by first | exact Or.inl rfl | exact Or.inr rfl) (ev_int pe_int))
      (sts_cons (st_for (vs := [3, 4]) (passes_of rfl) rfl (evi_tup (ev_var (pv 0))) ⟨(pg_tup (n := 2) rfl (pgs_cons (pg_name (i := 3) sc_never_falls.nd rfl (by first | exact Or.inl rfl | exact Or.inr rfl)) (pgs_cons (pg_name (i := 4) sc_never_falls.nd rfl (by first | exact Or.inl rfl | exact Or.inr rfl)) pgs_nil))), (tg_tup (tgs_cons (tg_name (by decide)) (tgs_cons (tg_name (by decide)) tgs_nil)))⟩ (sts_cons (st_augA .f (i := 2) sc_never_falls.nd rfl (by first | exact Or.inl rfl | exact Or.inr rfl) (ev_ty c_int1 (by rfl) (S_int S) (by decide +kernel) (eva_cons (ev_var (pv 4)) eva_nil)))
      (sts_one (st_set .f (i := 1) sc_never_falls.nd rfl (by first | exact Or.inl rfl | exact Or.inr rfl) (ev_and (ev_var (pv 1)) (ev_one (ev_cmp o_ge (ev_var (pv 2)) (ev_int pe_int) (nomark _))))))))
      (sts_one (st_ret (ev_var (pv 1)))))))
theorem sc_greatest_slack : FnScope ["arms"] ["arms"] (defScope s_greatest_slack) := ⟨rfl, rfl, rfl, by decide +kernel, rfl, by decide +kernel, by decide +kernel⟩
theorem fn_greatest_slack (S : SayL K mg) : Fn P w K mg base (L2.CX P w) 1 "greatest_slack" ["arms"] (spP K 1 f_greatest_slack) := by
  refine (fnP (own := []) (own' := []) (g := m_greatest_slack) s_greatest_slack S 14 27 rfl rfl sc_greatest_slack (fun _ _ _ _ _ _ us hl => match us, hl with | [_], _ => rfl) rfl (by decide) (fun f cdv A outer s H E hr => ?_)).imp pure_imp
  have hu := hu_of hr
  exact (sts_one (st_ret (ev_if (evt_cmp (o_neD hr.units) (ev_var (pv 0)) (ev_arm eva_nil) (nomark _)) (ev_ix o_ix (ev_ix o_ix (ev_var (pv 0)) (ev_neg (ev_int pe_int)) (fun _ _ => rfl)) (ev_int pe_int) (fun _ _ => rfl)) (ev_int pe_int))))
theorem sc_sorted_arms : FnScope ["weights", "arms", "slack", "arm"] ["weights"] (defScope s_sorted_arms) := ⟨rfl, rfl, rfl, by decide +kernel, rfl, by decide +kernel, by decide +kernel⟩
theorem fn_sorted_arms (S : SayL K mg) : Fn P w K mg base (L2.CX P w) 1 "sorted_arms" ["weights"] (spP K 1 f_sorted_arms) := by
  refine (fnP (own := []) (own' := []) (g := m_sorted_arms) s_sorted_arms S 11 24 rfl rfl sc_sorted_arms (fun _ _ _ _ _ _ us hl => match us, hl with | [_], _ => rfl) rfl (by decide) (fun f cdv A outer s H E hr => ?_)).imp pure_imp
  have hu := hu_of hr
  exact (sts_cons (st_set .f (i := 1) sc_sorted_arms.nd rfl (by first | exact Or.inl rfl | exact Or.inr rfl) (ev_ty c_tupA (by rfl) (S_tuple S) (by decide +kernel) (eva_cons (EvF.ev (evf_lc (own := [("slack", 2)]) rfl rfl sc_sorted_arms.nd (evi_list (ev_b (c_sortedD rfl) (by rfl) (S_sorted S) (by decide +kernel) (eva_cons (ev_var (pv 0)) eva_nil))) (blkOk_by (N := ["weights", "arms", "slack", "arm"]) (sc := defScope s_sorted_arms) (by decide +kernel)) (fun _ _ _ _ _ => (pg_name (i := 2) sc_sorted_arms.nd rfl (by first | exact Or.inl rfl | exact Or.inr rfl))) (tg_name (by decide)) (fun _ _ _ _ _ => (pts_of (evt_cmp o_neS (ev_dget hu (ev_var (pv 0)) (ev_var (pv 2)) (fun _ _ => rfl)) (ev_int pe_int) (nomark _)))) (fun _ _ _ _ _ => (ev_tup (eva_cons (ev_var (pv 2)) (eva_cons (ev_dget hu (ev_var (pv 0)) (ev_var (pv 2)) (fun _ _ => rfl)) eva_nil)))))) eva_nil)))
      (sts_cons (st_if .f (evt_w (evw_or (evt_cmp o_gt (ev_b c_len (by rfl) (S_len S) (by decide +kernel) (eva_cons (ev_var (pv 1)) eva_nil)) (ev_int (pe_gint (S_MAX_ARMS S))) (nomark _)) (evw_or1 (evt_val (ev_b (c_any rfl) (by rfl) (S_any S) (by decide +kernel) (eva_cons (EvF.ev (evf_lc (own := [("slack", 2), ("arm", 3)]) rfl rfl sc_sorted_arms.nd (evi_tup (ev_var (pv 1))) (blkOk_by (N := ["weights", "arms", "slack", "arm"]) (sc := defScope s_sorted_arms) (by decide +kernel)) (fun _ _ _ _ _ => (pg_tup (n := 2) rfl (pgs_cons (pg_name (i := 2) sc_sorted_arms.nd rfl (by first | exact Or.inl rfl | exact Or.inr rfl)) (pgs_cons (pg_name (i := 3) sc_sorted_arms.nd rfl (by first | exact Or.inl rfl | exact Or.inr rfl)) pgs_nil)))) (tg_tup (tgs_cons (tg_name (by decide)) (tgs_cons (tg_name (by decide)) tgs_nil))) (fun _ _ _ _ _ => pts_yes) (fun _ _ _ _ _ => (ev_or (ev_cmp o_gt (ev_b c_abs (by rfl) (S_abs S) (by decide +kernel) (eva_cons (ev_ty c_int1 (by rfl) (S_int S) (by decide +kernel) (eva_cons (ev_var (pv 3)) eva_nil)) eva_nil)) (ev_int (pe_gint (S_FAR S))) (nomark _)) (ev_one (ev_cmp o_gt (ev_var (pv 2)) (ev_int (pe_gint (S_MAX_DEEP S))) (nomark _))))))) eva_nil)))))) (sts_one st_never) sts_nil)
      (sts_one (st_ret (ev_var (pv 1))))))
theorem sc_bent : FnScope ["ends", "weights", "before", "height", "step"] ["ends"] (defScope s_bent) := ⟨rfl, rfl, rfl, by decide +kernel, rfl, by decide +kernel, by decide +kernel⟩
theorem fn_bent (S : SayL K mg) : Fn P w K mg base (L2.CX P w) 3 "bent" ["ends"] (spP K 1 f_bent) := by
  have F_sorted_arms := fn_sorted_arms (P := P) (w := w) (base := base) S
  refine (fnP (own := [1]) (own' := [1]) (g := m_bent) s_bent S 13 26 rfl rfl sc_bent (fun _ _ _ _ _ _ us hl => match us, hl with | [_], _ => rfl) rfl (by decide) (fun f cdv A outer s H E hr => ?_)).imp pure_imp
  have hu := hu_of hr
  have hr_sorted_arms : Room 1 _ := hr.mono (by decide)
  have hr1_sorted_arms : Room 2 _ := hr.mono (by decide)
  exact (sts_cons (st_setO .f (i := 1) sc_bent.nd rfl (by first | exact Or.inl rfl | exact Or.inr rfl) evf_dnew)
      (sts_cons (st_set .f (i := 2) sc_bent.nd rfl (by first | exact Or.inl rfl | exact Or.inr rfl) (ev_int pe_int))
      (sts_cons (st_forR .f (vs := [3]) (passes_of rfl) rfl (evi_rng1 (by rfl) (S_range S) (eva_cons (ev_op o_sub (ev_b c_len (by rfl) (S_len S) (by decide +kernel) (eva_cons (ev_var (pv 0)) eva_nil)) (ev_int pe_int)) eva_nil)) ⟨(pg_name (i := 3) sc_bent.nd rfl (by first | exact Or.inl rfl | exact Or.inr rfl)), (tg_name (by decide))⟩ (sts_cons (st_set .f (i := 4) sc_bent.nd rfl (by first | exact Or.inl rfl | exact Or.inr rfl) (ev_op o_sub (ev_ty c_int1 (by rfl) (S_int S) (by decide +kernel) (eva_cons (ev_ix o_ix (ev_var (pv 0)) (ev_op o_add (ev_var (pv 3)) (ev_int pe_int)) (fun _ _ => rfl)) eva_nil)) (ev_ty c_int1 (by rfl) (S_int S) (by decide +kernel) (eva_cons (ev_ix o_ix (ev_var (pv 0)) (ev_var (pv 3)) (fun _ _ => rfl)) eva_nil))))
      (sts_cons (st_dset .f (j := 1) hu (pv 1) (ev_var (pv 3)) (ev_op o_sub (ev_var (pv 4)) (ev_var (pv 2))) (fun h => pg_sub (pv 1) (ev_var (pv 3)) h))
      (sts_one (st_set .f (i := 2) sc_bent.nd rfl (by first | exact Or.inl rfl | exact Or.inr rfl) (ev_var (pv 4)))))))
      (sts_one (st_ret (ev_fn F_sorted_arms hr_sorted_arms (pass_x rfl rfl rfl rfl) (eva_cons (ev_var (pv 1)) eva_nil)))))))
theorem sc_curve_of : FnScope ["arms", "height", "slack", "arm"] ["arms", "height"] (defScope s_curve_of) := ⟨rfl, rfl, rfl, by decide +kernel, rfl, by decide +kernel, by decide +kernel⟩
theorem fn_curve_of (S : SayL K mg) : Fn P w K mg base (L2.CX P w) 1 "curve_of" ["arms", "height"] (spP K 2 f_curve_of) := by
  refine (fnP (own := []) (own' := []) (g := m_curve_of) s_curve_of S 7 20 rfl rfl sc_curve_of (fun _ _ _ _ _ _ us hl => match us, hl with | [_, _], _ => rfl) rfl (by decide) (fun f cdv A outer s H E hr => ?_)).imp pure_imp
  have hu := hu_of hr
  exact (sts_one (st_ret (ev_b (c_sum rfl) (by rfl) (S_sum S) (by decide +kernel) (eva_cons (EvF.ev (evf_lc (own := [("slack", 2), ("arm", 3)]) rfl rfl sc_curve_of.nd (evi_tup (ev_var (pv 0))) (blkOk_by (N := ["arms", "height", "slack", "arm"]) (sc := defScope s_curve_of) (by decide +kernel)) (fun _ _ _ _ _ => (pg_tup (n := 2) rfl (pgs_cons (pg_name (i := 2) sc_curve_of.nd rfl (by first | exact Or.inl rfl | exact Or.inr rfl)) (pgs_cons (pg_name (i := 3) sc_curve_of.nd rfl (by first | exact Or.inl rfl | exact Or.inr rfl)) pgs_nil)))) (tg_tup (tgs_cons (tg_name (by decide)) (tgs_cons (tg_name (by decide)) tgs_nil))) (fun _ _ _ _ _ => pts_yes) (fun _ _ _ _ _ => (ev_op o_mul (ev_ty c_int1 (by rfl) (S_int S) (by decide +kernel) (eva_cons (ev_var (pv 3)) eva_nil)) (ev_b (c_max2 rfl) (by rfl) (S_max S) (by decide +kernel) (eva_cons (ev_int pe_int) (eva_cons (ev_op o_sub (ev_ty c_int1 (by rfl) (S_int S) (by decide +kernel) (eva_cons (ev_var (pv 1)) eva_nil)) (ev_ty c_int1 (by rfl) (S_int S) (by decide +kernel) (eva_cons (ev_var (pv 2)) eva_nil))) eva_nil))))))) eva_nil))))
theorem sc_driven : FnScope ["one", "other", "last", "height"] ["one", "other"] (defScope s_driven) := ⟨rfl, rfl, rfl, by decide +kernel, rfl, by decide +kernel, by decide +kernel⟩
theorem fn_driven (S : SayL K mg) : Fn P w K mg base (L2.CX P w) 5 "driven" ["one", "other"] (spP K 2 f_driven) := by
  have F_greatest_slack := fn_greatest_slack (P := P) (w := w) (base := base) S
  have F_bent := fn_bent (P := P) (w := w) (base := base) S
  have F_curve_of := fn_curve_of (P := P) (w := w) (base := base) S
  refine (fnP (own := []) (own' := []) (g := m_driven) s_driven S 15 28 rfl rfl sc_driven (fun _ _ _ _ _ _ us hl => match us, hl with | [_, _], _ => rfl) rfl (by decide) (fun f cdv A outer s H E hr => ?_)).imp pure_imp
  have hu := hu_of hr
  have hr_greatest_slack : Room 1 _ := hr.mono (by decide)
  have hr1_greatest_slack : Room 2 _ := hr.mono (by decide)
  have hr_bent : Room 3 _ := hr.mono (by decide)
  have hr1_bent : Room 4 _ := hr.mono (by decide)
  have hr_curve_of : Room 1 _ := hr.mono (by decide)
  have hr1_curve_of : Room 2 _ := hr.mono (by decide)
  exact (sts_cons (st_set .f (i := 2) sc_driven.nd rfl (by first | exact Or.inl rfl | exact Or.inr rfl) (ev_op o_add (ev_op o_add (ev_ty c_int1 (by rfl) (S_int S) (by decide +kernel) (eva_cons (ev_fn F_greatest_slack hr_greatest_slack (pass_x rfl rfl rfl rfl) (eva_cons (ev_var (pv 0)) eva_nil)) eva_nil)) (ev_ty c_int1 (by rfl) (S_int S) (by decide +kernel) (eva_cons (ev_fn F_greatest_slack hr_greatest_slack (pass_x rfl rfl rfl rfl) (eva_cons (ev_var (pv 1)) eva_nil)) eva_nil))) (ev_int pe_int)))
      (sts_one (st_ret (ev_fn F_bent hr_bent (pass_x rfl rfl rfl rfl) (eva_cons (EvF.ev (evf_lc (own := [("height", 3)]) rfl rfl sc_driven.nd (evi_of (evi_rng1 (by rfl) (S_range S) (eva_cons (ev_op o_add (ev_var (pv 2)) (ev_int pe_int)) eva_nil))) (blkOk_by (N := ["one", "other", "last", "height"]) (sc := defScope s_driven) (by decide +kernel)) (fun _ _ _ _ _ => (pg_name (i := 3) sc_driven.nd rfl (by first | exact Or.inl rfl | exact Or.inr rfl))) (tg_name (by decide)) (fun _ _ _ _ _ => pts_yes) (fun _ _ _ _ _ => (ev_fn F_curve_of hr_curve_of pass_no (eva_cons (ev_var (pv 1)) (eva_cons (ev_fn F_curve_of hr_curve_of pass_no (eva_cons (ev_var (pv 0)) (eva_cons (ev_var (pv 3)) eva_nil))) eva_nil)))))) eva_nil)))))
theorem sc_Rig_rshift : FnScope ["self", "other"] ["self", "other"] (defScope s_Rig_rshift) := ⟨rfl, rfl, rfl, by decide +kernel, rfl, by decide +kernel, by decide +kernel⟩
theorem fn_Rig_rshift (S : SayL K mg) : MeB P w K mg base (L2.CX P w) 7 (He.ga K "Rig") "__rshift__" ["self", "other"] (spP K 2 f_Rig_rshift) := by
  have F_never_falls := fn_never_falls (P := P) (w := w) (base := base) S
  have F_Rig_init := fn_Rig_init (P := P) (w := w) (base := base) S
  have F_driven := fn_driven (P := P) (w := w) (base := base) S
  refine (meP (own := []) (own' := []) (g := m_Rig_rshift) s_Rig_rshift S 23 74 rfl rfl sc_Rig_rshift (fun _ _ _ _ _ _ us hl => match us, hl with | [_, _], _ => rfl) rfl (by decide) (fun f cdv A outer s H E hr => ?_)).imp pure_imp
  have hu := hu_of hr
  have hr_never_falls : Room 1 _ := hr.mono (by decide)
  have hr1_never_falls : Room 2 _ := hr.mono (by decide)
  have hr_Rig_init : Room 1 _ := hr.mono (by decide)
  have hr1_Rig_init : Room 2 _ := hr.mono (by decide)
  have hr_driven : Room 5 _ := hr.mono (by decide)
  have hr1_driven : Room 6 _ := hr.mono (by decide)
  exact (sts_cons (st_if .f (evt_not (evt_val (ev_fn F_never_falls hr_never_falls (pass_x rfl rfl rfl rfl) (eva_cons (ev_fld (C_Rig S) (N_Rig_told S) (ev_var (pv 0))) eva_nil)))) (sts_one st_never) sts_nil)
      (sts_one (st_ret (ev_mk F_Rig_init (K_Rig S).makes (K_Rig S).kp (S_Rig S) hr1_Rig_init (pass_x rfl rfl rfl rfl) (eva_cons (ev_fn F_driven hr_driven (pass_x rfl rfl rfl rfl) (eva_cons (ev_fld (C_Rig S) (N_Rig_told S) (ev_var (pv 0))) (eva_cons (ev_fld (C_Rig S) (N_Rig_told S) (ev_var (pv 1))) eva_nil))) eva_nil)))))
theorem sc_added : FnScope ["one", "other", "times", "weights", "slack", "arm"] ["one", "other", "times"] (defScope s_added) := ⟨rfl, rfl, rfl, by decide +kernel, rfl, by decide +kernel, by decide +kernel⟩
theorem fn_added (S : SayL K mg) : Fn P w K mg base (L2.CX P w) 3 "added" ["one", "other", "times"] (spP K 3 f_added) := by
  have F_sorted_arms := fn_sorted_arms (P := P) (w := w) (base := base) S
  refine (fnP (own := [3]) (own' := [3]) (g := m_added) s_added S 12 25 rfl rfl sc_added (fun _ _ _ _ _ _ us hl => match us, hl with | [_, _, _], _ => rfl) rfl (by decide) (fun f cdv A outer s H E hr => ?_)).imp pure_imp
  have hu := hu_of hr
  have hr_sorted_arms : Room 1 _ := hr.mono (by decide)
  have hr1_sorted_arms : Room 2 _ := hr.mono (by decide)
  exact (sts_cons (st_setO .f (i := 3) sc_added.nd rfl (by first | exact Or.inl rfl | exact Or.inr rfl) (evf_ty (cf_dictF rfl) (by rfl) (S_dict S) (by decide +kernel) (eva_cons (ev_var (pv 0)) eva_nil)))
      (sts_cons (st_for (vs := [4, 5]) (passes_of rfl) rfl (evi_tup (ev_var (pv 1))) ⟨(pg_tup (n := 2) rfl (pgs_cons (pg_name (i := 4) sc_added.nd rfl (by first | exact Or.inl rfl | exact Or.inr rfl)) (pgs_cons (pg_name (i := 5) sc_added.nd rfl (by first | exact Or.inl rfl | exact Or.inr rfl)) pgs_nil))), (tg_tup (tgs_cons (tg_name (by decide)) (tgs_cons (tg_name (by decide)) tgs_nil)))⟩ (sts_one (st_dset .g (j := 3) hu (pv 3) (ev_var (pv 4)) (ev_op o_add (ev_ty c_int1 (by rfl) (S_int S) (by decide +kernel) (eva_cons (ev_get2 hu (ev_var (pv 3)) (ev_var (pv 4)) (ev_int pe_int) ⟨rfl, rfl, rfl, rfl⟩) eva_nil)) (ev_op o_mul (ev_ty c_int1 (by rfl) (S_int S) (by decide +kernel) (eva_cons (ev_var (pv 2)) eva_nil)) (ev_ty c_int1 (by rfl) (S_int S) (by decide +kernel) (eva_cons (ev_var (pv 5)) eva_nil)))) (fun h => pg_sub (pv 3) (ev_var (pv 4)) h))))
      (sts_one (st_ret (ev_fn F_sorted_arms hr_sorted_arms (pass_x rfl rfl rfl rfl) (eva_cons (ev_var (pv 3)) eva_nil))))))
theorem sc_Rig_mul : FnScope ["self", "times"] ["self", "times"] (defScope s_Rig_mul) := ⟨rfl, rfl, rfl, by decide +kernel, rfl, by decide +kernel, by decide +kernel⟩
theorem fn_Rig_mul (S : SayL K mg) : MeB P w K mg base (L2.CX P w) 5 (He.ga K "Rig") "__mul__" ["self", "times"] (spP K 2 f_Rig_mul) := by
  have F_is_int_in := fn_is_int_in (P := P) (w := w) (base := base) S
  have F_Rig_init := fn_Rig_init (P := P) (w := w) (base := base) S
  have F_added := fn_added (P := P) (w := w) (base := base) S
  refine (meP (own := []) (own' := []) (g := m_Rig_mul) s_Rig_mul S 22 73 rfl rfl sc_Rig_mul (fun _ _ _ _ _ _ us hl => match us, hl with | [_, _], _ => rfl) rfl (by decide) (fun f cdv A outer s H E hr => ?_)).imp pure_imp
  have hu := hu_of hr
  have hr_is_int_in : Room 3 _ := hr.mono (by decide)
  have hr1_is_int_in : Room 4 _ := hr.mono (by decide)
  have hr_Rig_init : Room 1 _ := hr.mono (by decide)
  have hr1_Rig_init : Room 2 _ := hr.mono (by decide)
  have hr_added : Room 3 _ := hr.mono (by decide)
  have hr1_added : Room 4 _ := hr.mono (by decide)
  exact (sts_cons (st_if .f (evt_not (evt_val (ev_fn F_is_int_in hr_is_int_in (pass_x rfl rfl rfl rfl) (eva_cons (ev_var (pv 1)) (eva_cons (ev_neg (ev_int (pe_gint (S_MAX_TIMES S)))) (eva_cons (ev_int (pe_gint (S_MAX_TIMES S))) eva_nil)))))) (sts_one st_never) sts_nil)
      (sts_one (st_ret (ev_mk F_Rig_init (K_Rig S).makes (K_Rig S).kp (S_Rig S) hr1_Rig_init (pass_x rfl rfl rfl rfl) (eva_cons (ev_fn F_added hr_added (pass_x rfl rfl rfl rfl) (eva_cons (ev_arm eva_nil) (eva_cons (ev_fld (C_Rig S) (N_Rig_told S) (ev_var (pv 0))) (eva_cons (ev_var (pv 1)) eva_nil)))) eva_nil)))))
theorem sc_Rig_neg : FnScope ["self"] ["self"] (defScope s_Rig_neg) := ⟨rfl, rfl, rfl, by decide +kernel, rfl, by decide +kernel, by decide +kernel⟩
theorem fn_Rig_neg (S : SayL K mg) : MeB P w K mg base (L2.CX P w) 5 (He.ga K "Rig") "__neg__" ["self"] (spP K 1 f_Rig_neg) := by
  have F_Rig_init := fn_Rig_init (P := P) (w := w) (base := base) S
  have F_added := fn_added (P := P) (w := w) (base := base) S
  refine (meP (own := []) (own' := []) (g := m_Rig_neg) s_Rig_neg S 21 72 rfl rfl sc_Rig_neg (fun _ _ _ _ _ _ us hl => match us, hl with | [_], _ => rfl) rfl (by decide) (fun f cdv A outer s H E hr => ?_)).imp pure_imp
  have hu := hu_of hr
  have hr_Rig_init : Room 1 _ := hr.mono (by decide)
  have hr1_Rig_init : Room 2 _ := hr.mono (by decide)
  have hr_added : Room 3 _ := hr.mono (by decide)
  have hr1_added : Room 4 _ := hr.mono (by decide)
  exact (sts_one (st_ret (ev_mk F_Rig_init (K_Rig S).makes (K_Rig S).kp (S_Rig S) hr1_Rig_init (pass_x rfl rfl rfl rfl) (eva_cons (ev_fn F_added hr_added (pass_x rfl rfl rfl rfl) (eva_cons (ev_arm eva_nil) (eva_cons (ev_fld (C_Rig S) (N_Rig_told S) (ev_var (pv 0))) (eva_cons (ev_neg (ev_int pe_int)) eva_nil)))) eva_nil))))
theorem sc_Rig_add : FnScope ["self", "other"] ["self", "other"] (defScope s_Rig_add) := ⟨rfl, rfl, rfl, by decide +kernel, rfl, by decide +kernel, by decide +kernel⟩
theorem fn_Rig_add (S : SayL K mg) : MeB P w K mg base (L2.CX P w) 5 (He.ga K "Rig") "__add__" ["self", "other"] (spP K 2 f_Rig_add) := by
  have F_Rig_init := fn_Rig_init (P := P) (w := w) (base := base) S
  have F_added := fn_added (P := P) (w := w) (base := base) S
  refine (meP (own := []) (own' := []) (g := m_Rig_add) s_Rig_add S 19 70 rfl rfl sc_Rig_add (fun _ _ _ _ _ _ us hl => match us, hl with | [_, _], _ => rfl) rfl (by decide) (fun f cdv A outer s H E hr => ?_)).imp pure_imp
  have hu := hu_of hr
  have hr_Rig_init : Room 1 _ := hr.mono (by decide)
  have hr1_Rig_init : Room 2 _ := hr.mono (by decide)
  have hr_added : Room 3 _ := hr.mono (by decide)
  have hr1_added : Room 4 _ := hr.mono (by decide)
  exact (sts_one (st_ret (ev_mk F_Rig_init (K_Rig S).makes (K_Rig S).kp (S_Rig S) hr1_Rig_init (pass_x rfl rfl rfl rfl) (eva_cons (ev_fn F_added hr_added (pass_x rfl rfl rfl rfl) (eva_cons (ev_fld (C_Rig S) (N_Rig_told S) (ev_var (pv 0))) (eva_cons (ev_fld (C_Rig S) (N_Rig_told S) (ev_var (pv 1))) (eva_cons (ev_int pe_int) eva_nil)))) eva_nil))))
theorem sc_Rig_sub : FnScope ["self", "other"] ["self", "other"] (defScope s_Rig_sub) := ⟨rfl, rfl, rfl, by decide +kernel, rfl, by decide +kernel, by decide +kernel⟩
theorem fn_Rig_sub (S : SayL K mg) : MeB P w K mg base (L2.CX P w) 5 (He.ga K "Rig") "__sub__" ["self", "other"] (spP K 2 f_Rig_sub) := by
  have F_Rig_init := fn_Rig_init (P := P) (w := w) (base := base) S
  have F_added := fn_added (P := P) (w := w) (base := base) S
  refine (meP (own := []) (own' := []) (g := m_Rig_sub) s_Rig_sub S 20 71 rfl rfl sc_Rig_sub (fun _ _ _ _ _ _ us hl => match us, hl with | [_, _], _ => rfl) rfl (by decide) (fun f cdv A outer s H E hr => ?_)).imp pure_imp
  have hu := hu_of hr
  have hr_Rig_init : Room 1 _ := hr.mono (by decide)
  have hr1_Rig_init : Room 2 _ := hr.mono (by decide)
  have hr_added : Room 3 _ := hr.mono (by decide)
  have hr1_added : Room 4 _ := hr.mono (by decide)
  exact (sts_one (st_ret (ev_mk F_Rig_init (K_Rig S).makes (K_Rig S).kp (S_Rig S) hr1_Rig_init (pass_x rfl rfl rfl rfl) (eva_cons (ev_fn F_added hr_added (pass_x rfl rfl rfl rfl) (eva_cons (ev_fld (C_Rig S) (N_Rig_told S) (ev_var (pv 0))) (eva_cons (ev_fld (C_Rig S) (N_Rig_told S) (ev_var (pv 1))) (eva_cons (ev_neg (ev_int pe_int)) eva_nil)))) eva_nil))))
theorem sc_L_rig : FnScope ["_law_tree_here", "_law_one", "_law_other"] ["_law_tree_here"] (defScope s_L_rig) := ⟨rfl, rfl, rfl, by decide +kernel, rfl, by decide +kernel, by decide +kernel⟩
theorem fr_L_rig (S : SayL K mg) (n : Nat) : Fn P w K mg base (L2.CX P w) (9 + 2 * n) "_law_rig" ["_law_tree_here"] (spP K 1 (r_L_rig n)) := by
  have F_rod := fn_rod (P := P) (w := w) (base := base) S
  have F_Rig_mul := fn_Rig_mul (P := P) (w := w) (base := base) S
  have F_Rig_neg := fn_Rig_neg (P := P) (w := w) (base := base) S
  have F_Rig_rshift := fn_Rig_rshift (P := P) (w := w) (base := base) S
  have F_Rig_add := fn_Rig_add (P := P) (w := w) (base := base) S
  have F_Rig_sub := fn_Rig_sub (P := P) (w := w) (base := base) S
  induction n with
  | zero => exact fn_vac (k := 8) s_L_rig S 34 35 rfl rfl sc_L_rig (fun _ _ _ _ _ _ us hl => match us, hl with | [_], _ => rfl) spP_no
  | succ n ih =>
    have F_L_rig := ih
    refine fnP (k := 9 + 2 * n + 1) (own := []) (own' := []) (g := m_L_rig (r_L_rig n)) s_L_rig S 34 35 rfl rfl sc_L_rig (fun _ _ _ _ _ _ us hl => match us, hl with | [_], _ => rfl) rfl (by decide) (fun f cdv A outer s H E hr => ?_)
    have hr_L_rig : Room (9 + 2 * n) _ := hr.mono (by omega)
    have hu := hu_of hr
    have hr_rod : Room 5 _ := hr.mono (by omega)
    have hr1_rod : Room 6 _ := hr.mono (by omega)
    have hr_Rig_mul : Room 5 _ := hr.mono (by omega)
    have hr1_Rig_mul : Room 6 _ := hr.mono (by omega)
    have hr_Rig_neg : Room 5 _ := hr.mono (by omega)
    have hr1_Rig_neg : Room 6 _ := hr.mono (by omega)
    have hr_Rig_rshift : Room 7 _ := hr.mono (by omega)
    have hr1_Rig_rshift : Room 8 _ := hr.mono (by omega)
    have hr_Rig_add : Room 5 _ := hr.mono (by omega)
    have hr1_Rig_add : Room 6 _ := hr.mono (by omega)
    have hr_Rig_sub : Room 5 _ := hr.mono (by omega)
    have hr1_Rig_sub : Room 6 _ := hr.mono (by omega)
    exact (sts_cons (st_if .f (evt_cmp o_eqS (ev_ix o_ix (ev_var (pv 0)) (ev_int pe_int) (fun _ _ => rfl)) (ev_str pe_str) (nomark _)) (sts_one (st_ret (ev_fn F_rod hr_rod (pass_x rfl rfl rfl rfl) (eva_cons (ev_ix o_ix (ev_var (pv 0)) (ev_int pe_int) (fun _ _ => rfl)) eva_nil)))) sts_nil)
      (sts_cons (st_set .f (i := 1) sc_L_rig.nd rfl (by first | exact Or.inl rfl | exact Or.inr rfl) (ev_fn F_L_rig hr_L_rig (pass_x rfl rfl rfl rfl) (eva_cons (ev_ix o_ix (ev_var (pv 0)) (ev_int pe_int) (fun _ _ => rfl)) eva_nil)))
      (sts_cons (st_if .f (evt_cmp o_eqS (ev_ix o_ix (ev_var (pv 0)) (ev_int pe_int) (fun _ _ => rfl)) (ev_str pe_str) (nomark _)) (sts_one (st_ret (ev_op (o_ownT F_Rig_mul (X_mul_Rig S) hr_Rig_mul (pass_x rfl rfl rfl rfl)) (ev_var (pv 1)) (ev_ix o_ix (ev_var (pv 0)) (ev_int pe_int) (fun _ _ => rfl))))) sts_nil)
      (sts_cons (st_if .f (evt_cmp o_eqS (ev_ix o_ix (ev_var (pv 0)) (ev_int pe_int) (fun _ _ => rfl)) (ev_str pe_str) (nomark _)) (sts_one (st_ret (ev_un (o_ownN F_Rig_neg hr_Rig_neg (pass_x rfl rfl rfl rfl)) (ev_var (pv 1))))) sts_nil)
      (sts_cons (st_set .f (i := 2) sc_L_rig.nd rfl (by first | exact Or.inl rfl | exact Or.inr rfl) (ev_fn F_L_rig hr_L_rig (pass_x rfl rfl rfl rfl) (eva_cons (ev_ix o_ix (ev_var (pv 0)) (ev_int pe_int) (fun _ _ => rfl)) eva_nil)))
      (sts_cons (st_if .f (evt_cmp o_eqS (ev_ix o_ix (ev_var (pv 0)) (ev_int pe_int) (fun _ _ => rfl)) (ev_str pe_str) (nomark _)) (sts_one (st_ret (ev_op (o_ownB F_Rig_rshift (X_sf_Rig S) hr_Rig_rshift (pass_x rfl rfl rfl rfl)) (ev_var (pv 1)) (ev_var (pv 2))))) sts_nil)
      (sts_one (st_ret (ev_if (evt_cmp o_eqS (ev_ix o_ix (ev_var (pv 0)) (ev_int pe_int) (fun _ _ => rfl)) (ev_str pe_str) (nomark _)) (ev_op (o_ownB F_Rig_add (X_sf_Rig S) hr_Rig_add (pass_x rfl rfl rfl rfl)) (ev_var (pv 1)) (ev_var (pv 2))) (ev_op (o_ownB F_Rig_sub (X_sf_Rig S) hr_Rig_sub (pass_x rfl rfl rfl rfl)) (ev_var (pv 1)) (ev_var (pv 2))))))))))))
theorem fn_L_rig (S : SayL K mg) : Fn P w K mg base (L2.CX P w) 22 "_law_rig" ["_law_tree_here"] (spP K 1 f_L_rig) := ((fr_L_rig S 6).mono (by decide)).imp pure_imp
theorem sc_L_rest : FnScope ["_law_tree_here"] ["_law_tree_here"] (defScope s_L_rest) := ⟨rfl, rfl, rfl, by decide +kernel, rfl, by decide +kernel, by decide +kernel⟩
theorem fr_L_rest (S : SayL K mg) (n : Nat) : Fn P w K mg base (L2.CX P w) (2 + 2 * n) "_law_rest" ["_law_tree_here"] (spP K 1 (r_L_rest n)) := by
  induction n with
  | zero => exact fn_vac (k := 1) s_L_rest S 35 36 rfl rfl sc_L_rest (fun _ _ _ _ _ _ us hl => match us, hl with | [_], _ => rfl) spP_no
  | succ n ih =>
    have F_L_rest := ih
    refine fnP (k := 2 + 2 * n + 1) (own := []) (own' := []) (g := m_L_rest (r_L_rest n)) s_L_rest S 35 36 rfl rfl sc_L_rest (fun _ _ _ _ _ _ us hl => match us, hl with | [_], _ => rfl) rfl (by decide) (fun f cdv A outer s H E hr => ?_)
    have hr_L_rest : Room (2 + 2 * n) _ := hr.mono (by omega)
    have hu := hu_of hr
    exact (sts_cons (st_if .f (evt_cmp o_eqS (ev_ix o_ix (ev_var (pv 0)) (ev_int pe_int) (fun _ _ => rfl)) (ev_str pe_str) (nomark _)) (sts_one (st_ret (ev_int pe_int))) sts_nil)
      (sts_cons (st_if .f (evt_w (evw_or (evt_cmp o_eqS (ev_ix o_ix (ev_var (pv 0)) (ev_int pe_int) (fun _ _ => rfl)) (ev_str pe_str) (nomark _)) (evw_or1 (evt_cmp o_eqS (ev_ix o_ix (ev_var (pv 0)) (ev_int pe_int) (fun _ _ => rfl)) (ev_str pe_str) (nomark _))))) (sts_one (st_ret (ev_tup (eva_cons (ev_fn F_L_rest hr_L_rest (pass_x rfl rfl rfl rfl) (eva_cons (ev_ix o_ix (ev_var (pv 0)) (ev_int pe_int) (fun _ _ => rfl)) eva_nil)) (eva_cons (ev_fn F_L_rest hr_L_rest (pass_x rfl rfl rfl rfl) (eva_cons (ev_ix o_ix (ev_var (pv 0)) (ev_int pe_int) (fun _ _ => rfl)) eva_nil)) eva_nil))))) sts_nil)
      (sts_cons (st_if .f (evt_cmp o_eqS (ev_ix o_ix (ev_var (pv 0)) (ev_int pe_int) (fun _ _ => rfl)) (ev_str pe_str) (nomark _)) (sts_one (st_ret (ev_tup (eva_cons (ev_fn F_L_rest hr_L_rest (pass_x rfl rfl rfl rfl) (eva_cons (ev_ix o_ix (ev_var (pv 0)) (ev_int pe_int) (fun _ _ => rfl)) eva_nil)) (eva_cons (ev_int pe_int) (eva_cons (ev_fn F_L_rest hr_L_rest (pass_x rfl rfl rfl rfl) (eva_cons (ev_ix o_ix (ev_var (pv 0)) (ev_int pe_int) (fun _ _ => rfl)) eva_nil)) eva_nil)))))) sts_nil)
      (sts_one (st_ret (ev_fn F_L_rest hr_L_rest (pass_x rfl rfl rfl rfl) (eva_cons (ev_ix o_ix (ev_var (pv 0)) (ev_int pe_int) (fun _ _ => rfl)) eva_nil)))))))
theorem fn_L_rest (S : SayL K mg) : Fn P w K mg base (L2.CX P w) 14 "_law_rest" ["_law_tree_here"] (spP K 1 f_L_rest) := ((fr_L_rest S 6).mono (by decide)).imp pure_imp
theorem sc_L_steps : FnScope ["_law_old", "_law_new"] ["_law_old", "_law_new"] (defScope s_L_steps) := ⟨rfl, rfl, rfl, by decide +kernel, rfl, by decide +kernel, by decide +kernel⟩
theorem fn_L_steps (S : SayL K mg) : Fn P w K mg base (L2.CX P w) 1 "_law_steps" ["_law_old", "_law_new"] (spP K 2 f_L_steps) := by
  refine (fnP (own := []) (own' := []) (g := m_L_steps) s_L_steps S 36 37 rfl rfl sc_L_steps (fun _ _ _ _ _ _ us hl => match us, hl with | [_, _], _ => rfl) rfl (by decide) (fun f cdv A outer s H E hr => ?_)).imp pure_imp
  have hu := hu_of hr
  exact (sts_one (st_ret (ev_if (evt_cmp o_gt (ev_var (pv 1)) (ev_var (pv 0)) (nomark _)) (EvF.ev (evf_rg2 rfl (by rfl) (S_list S) (by rfl) (S_range S) (ev_op o_add (ev_var (pv 0)) (ev_int pe_int)) (ev_op o_add (ev_var (pv 1)) (ev_int pe_int)))) (EvF.ev (evf_rg3 rfl (by rfl) (S_list S) (by rfl) (S_range S) (eva_cons (ev_op o_sub (ev_var (pv 0)) (ev_int pe_int)) (eva_cons (ev_op o_sub (ev_var (pv 1)) (ev_int pe_int)) (eva_cons (ev_op o_sub (ev_int pe_int) (ev_int pe_int)) eva_nil))))))))
theorem sc_L_step : FnScope ["_law_tree_here", "_law_state", "_law_x", "_law_y", "_law_one", "_law_two", "_law_end", "_law_after", "_law_middle", "_law_last", "_law_between"] ["_law_tree_here", "_law_state", "_law_x"] (defScope s_L_step) := ⟨rfl, rfl, rfl, by decide +kernel, rfl, by decide +kernel, by decide +kernel⟩
theorem fr_L_step (S : SayL K mg) (n : Nat) : Fn P w K mg base (L2.CX P w) (3 + 2 * n) "_law_step" ["_law_tree_here", "_law_state", "_law_x"] (spP K 3 (r_L_step n)) := by
  have F_L_steps := fn_L_steps (P := P) (w := w) (base := base) S
  induction n with
  | zero => exact fn_vac (k := 2) s_L_step S 37 38 rfl rfl sc_L_step (fun _ _ _ _ _ _ us hl => match us, hl with | [_, _, _], _ => rfl) spP_no
  | succ n ih =>
    have F_L_step := ih
    refine fnP (k := 3 + 2 * n + 1) (own := []) (own' := []) (g := m_L_step (r_L_step n)) s_L_step S 37 38 rfl rfl sc_L_step (fun _ _ _ _ _ _ us hl => match us, hl with | [_, _, _], _ => rfl) rfl (by decide) (fun f cdv A outer s H E hr => ?_)
    have hr_L_step : Room (3 + 2 * n) _ := hr.mono (by omega)
    have hu := hu_of hr
    have hr_L_steps : Room 1 _ := hr.mono (by omega)
    have hr1_L_steps : Room 2 _ := hr.mono (by omega)
    exact (sts_cons (st_if .f (evt_cmp o_eqS (ev_ix o_ix (ev_var (pv 0)) (ev_int pe_int) (fun _ _ => rfl)) (ev_str pe_str) (nomark _)) (sts_cons (st_set .f (i := 3) sc_L_step.nd rfl (by first | exact Or.inl rfl | exact Or.inr rfl) (ev_b (c_min2 rfl) (by rfl) (S_min S) (by decide +kernel) (eva_cons (ev_b (c_max2 rfl) (by rfl) (S_max S) (by decide +kernel) (eva_cons (ev_var (pv 1)) (eva_cons (ev_op o_sub (ev_var (pv 2)) (ev_ix o_ix (ev_var (pv 0)) (ev_int pe_int) (fun _ _ => rfl))) eva_nil))) (eva_cons (ev_var (pv 2)) eva_nil))))
      (sts_one (st_ret (ev_tup (eva_cons (ev_var (pv 3)) (eva_cons (ev_var (pv 3)) eva_nil)))))) sts_nil)
      (sts_cons (st_if .f (evt_w (evw_or (evt_cmp o_eqS (ev_ix o_ix (ev_var (pv 0)) (ev_int pe_int) (fun _ _ => rfl)) (ev_str pe_str) (nomark _)) (evw_or1 (evt_cmp o_eqS (ev_ix o_ix (ev_var (pv 0)) (ev_int pe_int) (fun _ _ => rfl)) (ev_str pe_str) (nomark _))))) (sts_cons (st_par (i := 4) (j := 5) (by rfl) sc_L_step.nd rfl rfl (by decide) rfl rfl (evm_old (ev_fn F_L_step hr_L_step (pass_x rfl rfl rfl rfl) (eva_cons (ev_ix o_ix (ev_var (pv 0)) (ev_int pe_int) (fun _ _ => rfl)) (eva_cons (ev_ix o_ix (ev_var (pv 1)) (ev_int pe_int) (fun _ _ => rfl)) (eva_cons (ev_var (pv 2)) eva_nil)))) (evm_old (ev_fn F_L_step hr_L_step (pass_x rfl rfl rfl rfl) (eva_cons (ev_ix o_ix (ev_var (pv 0)) (ev_int pe_int) (fun _ _ => rfl)) (eva_cons (ev_ix o_ix (ev_var (pv 1)) (ev_int pe_int) (fun _ _ => rfl)) (eva_cons (ev_var (pv 2)) eva_nil)))) evm_nil)) (by rfl))
      (sts_one (st_ret (ev_tup (eva_cons (ev_if (evt_cmp o_eqS (ev_ix o_ix (ev_var (pv 0)) (ev_int pe_int) (fun _ _ => rfl)) (ev_str pe_str) (nomark _)) (ev_op o_add (ev_ix o_ix (ev_var (pv 4)) (ev_int pe_int) (fun _ _ => rfl)) (ev_ix o_ix (ev_var (pv 5)) (ev_int pe_int) (fun _ _ => rfl))) (ev_op o_sub (ev_ix o_ix (ev_var (pv 4)) (ev_int pe_int) (fun _ _ => rfl)) (ev_ix o_ix (ev_var (pv 5)) (ev_int pe_int) (fun _ _ => rfl)))) (eva_cons (ev_tup (eva_cons (ev_ix o_ix (ev_var (pv 4)) (ev_int pe_int) (fun _ _ => rfl)) (eva_cons (ev_ix o_ix (ev_var (pv 5)) (ev_int pe_int) (fun _ _ => rfl)) eva_nil))) eva_nil)))))) sts_nil)
      (sts_cons (st_if .f (evt_cmp o_eqS (ev_ix o_ix (ev_var (pv 0)) (ev_int pe_int) (fun _ _ => rfl)) (ev_str pe_str) (nomark _)) (sts_cons (st_asg .f (vs := [6, 7]) (ev_fn F_L_step hr_L_step (pass_x rfl rfl rfl rfl) (eva_cons (ev_ix o_ix (ev_var (pv 0)) (ev_int pe_int) (fun _ _ => rfl)) (eva_cons (ev_var (pv 1)) (eva_cons (ev_var (pv 2)) eva_nil)))) ⟨(pg_tup (n := 2) rfl (pgs_cons (pg_name (i := 6) sc_L_step.nd rfl (by first | exact Or.inl rfl | exact Or.inr rfl)) (pgs_cons (pg_name (i := 7) sc_L_step.nd rfl (by first | exact Or.inl rfl | exact Or.inr rfl)) pgs_nil))), (tg_tup (tgs_cons (tg_name (by decide)) (tgs_cons (tg_name (by decide)) tgs_nil)))⟩)
      (sts_one (st_ret (ev_tup (eva_cons (ev_op o_mul (ev_var (pv 6)) (ev_ix o_ix (ev_var (pv 0)) (ev_int pe_int) (fun _ _ => rfl))) (eva_cons (ev_var (pv 7)) eva_nil)))))) sts_nil)
      (sts_cons (st_if .f (evt_cmp o_eqS (ev_ix o_ix (ev_var (pv 0)) (ev_int pe_int) (fun _ _ => rfl)) (ev_str pe_str) (nomark _)) (sts_cons (st_asg .f (vs := [6, 7]) (ev_fn F_L_step hr_L_step (pass_x rfl rfl rfl rfl) (eva_cons (ev_ix o_ix (ev_var (pv 0)) (ev_int pe_int) (fun _ _ => rfl)) (eva_cons (ev_var (pv 1)) (eva_cons (ev_var (pv 2)) eva_nil)))) ⟨(pg_tup (n := 2) rfl (pgs_cons (pg_name (i := 6) sc_L_step.nd rfl (by first | exact Or.inl rfl | exact Or.inr rfl)) (pgs_cons (pg_name (i := 7) sc_L_step.nd rfl (by first | exact Or.inl rfl | exact Or.inr rfl)) pgs_nil))), (tg_tup (tgs_cons (tg_name (by decide)) (tgs_cons (tg_name (by decide)) tgs_nil)))⟩)
      (sts_one (st_ret (ev_tup (eva_cons (ev_op o_sub (ev_int pe_int) (ev_var (pv 6))) (eva_cons (ev_var (pv 7)) eva_nil)))))) sts_nil)
      (sts_cons (st_asg .f (vs := [8, 7]) (ev_fn F_L_step hr_L_step (pass_x rfl rfl rfl rfl) (eva_cons (ev_ix o_ix (ev_var (pv 0)) (ev_int pe_int) (fun _ _ => rfl)) (eva_cons (ev_ix o_ix (ev_var (pv 1)) (ev_int pe_int) (fun _ _ => rfl)) (eva_cons (ev_var (pv 2)) eva_nil)))) ⟨(pg_tup (n := 2) rfl (pgs_cons (pg_name (i := 8) sc_L_step.nd rfl (by first | exact Or.inl rfl | exact Or.inr rfl)) (pgs_cons (pg_name (i := 7) sc_L_step.nd rfl (by first | exact Or.inl rfl | exact Or.inr rfl)) pgs_nil))), (tg_tup (tgs_cons (tg_name (by decide)) (tgs_cons (tg_name (by decide)) tgs_nil)))⟩)
      (sts_cons (st_asg .f (vs := [6, 9]) (ev_fn F_L_step hr_L_step (pass_x rfl rfl rfl rfl) (eva_cons (ev_ix o_ix (ev_var (pv 0)) (ev_int pe_int) (fun _ _ => rfl)) (eva_cons (ev_ix o_ix (ev_var (pv 1)) (ev_int pe_int) (fun _ _ => rfl)) (eva_cons (ev_ix o_ix (ev_var (pv 1)) (ev_int pe_int) (fun _ _ => rfl)) eva_nil)))) ⟨(pg_tup (n := 2) rfl (pgs_cons (pg_name (i := 6) sc_L_step.nd rfl (by first | exact Or.inl rfl | exact Or.inr rfl)) (pgs_cons (pg_name (i := 9) sc_L_step.nd rfl (by first | exact Or.inl rfl | exact Or.inr rfl)) pgs_nil))), (tg_tup (tgs_cons (tg_name (by decide)) (tgs_cons (tg_name (by decide)) tgs_nil)))⟩)
      (sts_cons (st_for (vs := [10]) (passes_of rfl) rfl (evi_list (ev_fn F_L_steps hr_L_steps (pass_x rfl rfl rfl rfl) (eva_cons (ev_ix o_ix (ev_var (pv 1)) (ev_int pe_int) (fun _ _ => rfl)) (eva_cons (ev_var (pv 8)) eva_nil)))) ⟨(pg_name (i := 10) sc_L_step.nd rfl (by first | exact Or.inl rfl | exact Or.inr rfl)), (tg_name (by decide))⟩ (sts_one (st_asg .f (vs := [6, 9]) (ev_fn F_L_step hr_L_step (pass_x rfl rfl rfl rfl) (eva_cons (ev_ix o_ix (ev_var (pv 0)) (ev_int pe_int) (fun _ _ => rfl)) (eva_cons (ev_var (pv 9)) (eva_cons (ev_var (pv 10)) eva_nil)))) ⟨(pg_tup (n := 2) rfl (pgs_cons (pg_name (i := 6) sc_L_step.nd rfl (by first | exact Or.inl rfl | exact Or.inr rfl)) (pgs_cons (pg_name (i := 9) sc_L_step.nd rfl (by first | exact Or.inl rfl | exact Or.inr rfl)) pgs_nil))), (tg_tup (tgs_cons (tg_name (by decide)) (tgs_cons (tg_name (by decide)) tgs_nil)))⟩)))
      (sts_one (st_ret (ev_tup (eva_cons (ev_var (pv 6)) (eva_cons (ev_tup (eva_cons (ev_var (pv 7)) (eva_cons (ev_var (pv 8)) (eva_cons (ev_var (pv 9)) eva_nil)))) eva_nil))))))))))))
theorem fn_L_step (S : SayL K mg) : Fn P w K mg base (L2.CX P w) 16 "_law_step" ["_law_tree_here", "_law_state", "_law_x"] (spP K 3 f_L_step) := ((fr_L_step S 6).mono (by decide)).imp pure_imp
theorem sc_L_path : FnScope ["_law_tree_here", "_law_row", "_law_state", "_law_at", "_law_end", "_law_found", "_law_far", "_law_place", "_law_step_here", "_law_old"] ["_law_tree_here", "_law_row"] (defScope s_L_path) := ⟨rfl, rfl, rfl, by decide +kernel, rfl, by decide +kernel, by decide +kernel⟩
theorem fn_L_path (S : SayL K mg) : Fn P w K mg base (L2.CX P w) 18 "_law_path" ["_law_tree_here", "_law_row"] (spP K 2 f_L_path) := by
  have F_L_rest := fn_L_rest (P := P) (w := w) (base := base) S
  have F_L_steps := fn_L_steps (P := P) (w := w) (base := base) S
  have F_L_step := fn_L_step (P := P) (w := w) (base := base) S
  refine (fnP (own := [5]) (own' := [5]) (g := m_L_path) s_L_path S 38 39 rfl rfl sc_L_path (fun _ _ _ _ _ _ us hl => match us, hl with | [_, _], _ => rfl) rfl (by decide) (fun f cdv A outer s H E hr => ?_)).imp pure_imp
  have hu := hu_of hr
  have hr_L_rest : Room 14 _ := hr.mono (by decide)
  have hr1_L_rest : Room 15 _ := hr.mono (by decide)
  have hr_L_steps : Room 1 _ := hr.mono (by decide)
  have hr1_L_steps : Room 2 _ := hr.mono (by decide)
  have hr_L_step : Room 16 _ := hr.mono (by decide)
  have hr1_L_step : Room 17 _ := hr.mono (by decide)
  exact (sts_cons (st_parN (is := [2, 3, 4, 5, 6]) rfl (pgs_cons (pg_name (i := 2) sc_L_path.nd rfl (by first | exact Or.inl rfl | exact Or.inr rfl)) (pgs_cons (pg_name (i := 3) sc_L_path.nd rfl (by first | exact Or.inl rfl | exact Or.inr rfl)) (pgs_cons (pg_name (i := 4) sc_L_path.nd rfl (by first | exact Or.inl rfl | exact Or.inr rfl)) (pgs_cons (pg_name (i := 5) sc_L_path.nd rfl (by first | exact Or.inl rfl | exact Or.inr rfl)) (pgs_cons (pg_name (i := 6) sc_L_path.nd rfl (by first | exact Or.inl rfl | exact Or.inr rfl)) pgs_nil))))) (evm_old (ev_fn F_L_rest hr_L_rest (pass_x rfl rfl rfl rfl) (eva_cons (ev_var (pv 0)) eva_nil)) (evm_old (ev_int pe_int) (evm_old (ev_int pe_int) (evm_new (evf_lst eva_nil) (evm_old (ev_int pe_int) evm_nil))))) rfl (by decide))
      (sts_cons (st_for (vs := [7]) (passes_of rfl) rfl (evi_list (ev_var (pv 1))) ⟨(pg_name (i := 7) sc_L_path.nd rfl (by first | exact Or.inl rfl | exact Or.inr rfl)), (tg_name (by decide))⟩ (sts_cons (st_for (vs := [8]) (passes_of rfl) rfl (evi_list (ev_fn F_L_steps hr_L_steps (pass_x rfl rfl rfl rfl) (eva_cons (ev_var (pv 3)) (eva_cons (ev_var (pv 7)) eva_nil)))) ⟨(pg_name (i := 8) sc_L_path.nd rfl (by first | exact Or.inl rfl | exact Or.inr rfl)), (tg_name (by decide))⟩ (sts_cons (st_set .f (i := 9) sc_L_path.nd rfl (by first | exact Or.inl rfl | exact Or.inr rfl) (ev_var (pv 4)))
      (sts_cons (st_asg .f (vs := [4, 2]) (ev_fn F_L_step hr_L_step (pass_x rfl rfl rfl rfl) (eva_cons (ev_var (pv 0)) (eva_cons (ev_var (pv 2)) (eva_cons (ev_var (pv 8)) eva_nil)))) ⟨(pg_tup (n := 2) rfl (pgs_cons (pg_name (i := 4) sc_L_path.nd rfl (by first | exact Or.inl rfl | exact Or.inr rfl)) (pgs_cons (pg_name (i := 2) sc_L_path.nd rfl (by first | exact Or.inl rfl | exact Or.inr rfl)) pgs_nil))), (tg_tup (tgs_cons (tg_name (by decide)) (tgs_cons (tg_name (by decide)) tgs_nil)))⟩)
      (sts_one (st_set .f (i := 6) sc_L_path.nd rfl (by first | exact Or.inl rfl | exact Or.inr rfl) (ev_op o_add (ev_var (pv 6)) (ev_b c_abs (by rfl) (S_abs S) (by decide +kernel) (eva_cons (ev_op o_sub (ev_var (pv 4)) (ev_var (pv 9))) eva_nil))))))))
      (sts_cons (st_set .f (i := 3) sc_L_path.nd rfl (by first | exact Or.inl rfl | exact Or.inr rfl) (ev_var (pv 7)))
      (sts_one (st_app .f (by decide) (pv 5) (eva_cons (ev_var (pv 4)) eva_nil))))))
      (sts_one (st_ret (ev_tup (eva_cons (ev_var (pv 5)) (eva_cons (ev_var (pv 6)) eva_nil)))))))
theorem sc_L_curve : FnScope ["_law_tree_here", "_law_height"] ["_law_tree_here", "_law_height"] (defScope s_L_curve) := ⟨rfl, rfl, rfl, by decide +kernel, rfl, by decide +kernel, by decide +kernel⟩
theorem fn_L_curve (S : SayL K mg) : Fn P w K mg base (L2.CX P w) 20 "_law_curve" ["_law_tree_here", "_law_height"] (spP K 2 f_L_curve) := by
  have F_L_path := fn_L_path (P := P) (w := w) (base := base) S
  refine (fnP (own := []) (own' := []) (g := m_L_curve) s_L_curve S 39 40 rfl rfl sc_L_curve (fun _ _ _ _ _ _ us hl => match us, hl with | [_, _], _ => rfl) rfl (by decide) (fun f cdv A outer s H E hr => ?_)).imp pure_imp
  have hu := hu_of hr
  have hr_L_path : Room 18 _ := hr.mono (by decide)
  have hr1_L_path : Room 19 _ := hr.mono (by decide)
  exact (sts_one (st_ret (ev_op o_cat (EvF.ev (evf_lst (eva_cons (ev_int pe_int) eva_nil))) (ev_ix o_ix (ev_fn F_L_path hr_L_path (pass_x rfl rfl rfl rfl) (eva_cons (ev_var (pv 0)) (eva_cons (EvF.ev (evf_rg2 rfl (by rfl) (S_list S) (by rfl) (S_range S) (ev_int pe_int) (ev_op o_add (ev_var (pv 1)) (ev_int pe_int)))) eva_nil))) (ev_int pe_int) (fun _ _ => rfl)))))
theorem sc_L_total : FnScope ["_law_tree_here"] ["_law_tree_here"] (defScope s_L_total) := ⟨rfl, rfl, rfl, by decide +kernel, rfl, by decide +kernel, by decide +kernel⟩
theorem fr_L_total (S : SayL K mg) (n : Nat) : Fn P w K mg base (L2.CX P w) (2 + 2 * n) "_law_total" ["_law_tree_here"] (spP K 1 (r_L_total n)) := by
  induction n with
  | zero => exact fn_vac (k := 1) s_L_total S 40 41 rfl rfl sc_L_total (fun _ _ _ _ _ _ us hl => match us, hl with | [_], _ => rfl) spP_no
  | succ n ih =>
    have F_L_total := ih
    refine fnP (k := 2 + 2 * n + 1) (own := []) (own' := []) (g := m_L_total (r_L_total n)) s_L_total S 40 41 rfl rfl sc_L_total (fun _ _ _ _ _ _ us hl => match us, hl with | [_], _ => rfl) rfl (by decide) (fun f cdv A outer s H E hr => ?_)
    have hr_L_total : Room (2 + 2 * n) _ := hr.mono (by omega)
    have hu := hu_of hr
    exact (sts_cons (st_if .f (evt_cmp o_eqS (ev_ix o_ix (ev_var (pv 0)) (ev_int pe_int) (fun _ _ => rfl)) (ev_str pe_str) (nomark _)) (sts_one (st_ret (ev_ix o_ix (ev_var (pv 0)) (ev_int pe_int) (fun _ _ => rfl)))) sts_nil)
      (sts_cons (st_if .f (evt_w (evw_or (evt_cmp o_eqS (ev_ix o_ix (ev_var (pv 0)) (ev_int pe_int) (fun _ _ => rfl)) (ev_str pe_str) (nomark _)) (evw_or1 (evt_cmp o_eqS (ev_ix o_ix (ev_var (pv 0)) (ev_int pe_int) (fun _ _ => rfl)) (ev_str pe_str) (nomark _))))) (sts_one (st_ret (ev_fn F_L_total hr_L_total (pass_x rfl rfl rfl rfl) (eva_cons (ev_ix o_ix (ev_var (pv 0)) (ev_int pe_int) (fun _ _ => rfl)) eva_nil)))) sts_nil)
      (sts_one (st_ret (ev_op o_add (ev_fn F_L_total hr_L_total (pass_x rfl rfl rfl rfl) (eva_cons (ev_ix o_ix (ev_var (pv 0)) (ev_int pe_int) (fun _ _ => rfl)) eva_nil)) (ev_fn F_L_total hr_L_total (pass_x rfl rfl rfl rfl) (eva_cons (ev_ix o_ix (ev_var (pv 0)) (ev_int pe_int) (fun _ _ => rfl)) eva_nil)))))))
theorem fn_L_total (S : SayL K mg) : Fn P w K mg base (L2.CX P w) 14 "_law_total" ["_law_tree_here"] (spP K 1 f_L_total) := ((fr_L_total S 6).mono (by decide)).imp pure_imp
theorem sc_L_is_forward : FnScope ["_law_tree_here", "_law_curve_here", "_law_k"] ["_law_tree_here"] (defScope s_L_is_forward) := ⟨rfl, rfl, rfl, by decide +kernel, rfl, by decide +kernel, by decide +kernel⟩
theorem fn_L_is_forward (S : SayL K mg) : Fn P w K mg base (L2.CX P w) 22 "_law_is_forward" ["_law_tree_here"] (spP K 1 f_L_is_forward) := by
  have F_L_curve := fn_L_curve (P := P) (w := w) (base := base) S
  have F_L_total := fn_L_total (P := P) (w := w) (base := base) S
  refine (fnP (own := []) (own' := []) (g := m_L_is_forward) s_L_is_forward S 41 42 rfl rfl sc_L_is_forward (fun _ _ _ _ _ _ us hl => match us, hl with | [_], _ => rfl) rfl (by decide) (fun f cdv A outer s H E hr => ?_)).imp pure_imp
  have hu := hu_of hr
  have hr_L_curve : Room 20 _ := hr.mono (by decide)
  have hr1_L_curve : Room 21 _ := hr.mono (by decide)
  have hr_L_total : Room 14 _ := hr.mono (by decide)
  have hr1_L_total : Room 15 _ := hr.mono (by decide)
  exact (sts_cons (st_set .f (i := 1) sc_L_is_forward.nd rfl (by first | exact Or.inl rfl | exact Or.inr rfl) (ev_fn F_L_curve hr_L_curve (pass_x rfl rfl rfl rfl) (eva_cons (ev_var (pv 0)) (eva_cons (ev_op o_add (ev_fn F_L_total hr_L_total (pass_x rfl rfl rfl rfl) (eva_cons (ev_var (pv 0)) eva_nil)) (ev_int pe_int)) eva_nil))))
      (sts_one (st_ret (ev_cmp (o_eqD hr.units) (EvF.ev (evf_lc (own := [("_law_k", 2)]) rfl rfl sc_L_is_forward.nd (evi_of (evi_rng1 (by rfl) (S_range S) (eva_cons (ev_op o_sub (ev_b c_len (by rfl) (S_len S) (by decide +kernel) (eva_cons (ev_var (pv 1)) eva_nil)) (ev_int pe_int)) eva_nil))) (blkOk_by (N := ["_law_tree_here", "_law_curve_here", "_law_k"]) (sc := defScope s_L_is_forward) (by decide +kernel)) (fun _ _ _ _ _ => (pg_name (i := 2) sc_L_is_forward.nd rfl (by first | exact Or.inl rfl | exact Or.inr rfl))) (tg_name (by decide)) (fun _ _ _ _ _ => (pts_of (evt_cmp o_lt (ev_ix o_ix (ev_var (pv 1)) (ev_op o_add (ev_var (pv 2)) (ev_int pe_int)) (fun _ _ => rfl)) (ev_ix o_ix (ev_var (pv 1)) (ev_var (pv 2)) (fun _ _ => rfl)) (nomark _)))) (fun _ _ _ _ _ => (ev_var (pv 2))))) (EvF.ev (evf_lst eva_nil)) (nomark _)))))
theorem sc_L_tree : FnScope ["_law_d", "_law_deep", "_law_kind", "_law_one", "_law_other"] ["_law_d", "_law_deep"] (defScope s_L_tree) := ⟨rfl, rfl, rfl, by decide +kernel, rfl, by decide +kernel, by decide +kernel⟩
theorem fr_L_tree (S : SayL K mg) (n : Nat) : Fn P w K mg base (L2.CX P w) (24 + 2 * n) "_law_tree" ["_law_d", "_law_deep"] (spL K 2 (r_L_tree n)) := by
  have F_L_below := fn_L_below (P := P) (w := w) (base := base) S
  have F_L_is_forward := fn_L_is_forward (P := P) (w := w) (base := base) S
  induction n with
  | zero => exact fn_vac (k := 23) s_L_tree S 42 43 rfl rfl sc_L_tree (fun _ _ _ _ _ _ us hl => match us, hl with | [_, _], _ => rfl) spL_no
  | succ n ih =>
    have F_L_tree := ih
    refine fnL (k := 24 + 2 * n + 1) (own := []) (own' := []) (g := m_L_tree (r_L_tree n)) s_L_tree S 42 43 rfl rfl sc_L_tree (fun _ _ _ _ _ _ us hl => match us, hl with | [_, _], _ => rfl) rfl (by decide) (by decide) (fun f cdv A outer s H E hr => ?_)
    have hr_L_tree : Room (24 + 2 * n) _ := hr.mono (by omega)
    have hu := hu_of hr
    have hr_L_below : Room 1 _ := hr.mono (by omega)
    have hr1_L_below : Room 2 _ := hr.mono (by omega)
    have hr_L_is_forward : Room 22 _ := hr.mono (by omega)
    have hr1_L_is_forward : Room 23 _ := hr.mono (by omega)
    exact (sts_cons (st_set .f (i := 2) sc_L_tree.nd rfl (by first | exact Or.inl rfl | exact Or.inr rfl) (ev_fnL F_L_below hr_L_below (pass_x rfl rfl rfl rfl) (pv 0) (eva_cons (ev_int pe_int) eva_nil)))
      (sts_cons (st_if .f (evt_w (evw_or (evt_cmp o_eqS (ev_var (pv 1)) (ev_int pe_int) (nomark _)) (evw_or1 (evt_cmp o_eqS (ev_var (pv 2)) (ev_int pe_int) (nomark _))))) (sts_one (st_ret (ev_tup (eva_cons (ev_str pe_str) (eva_cons (ev_fnL F_L_below hr_L_below (pass_x rfl rfl rfl rfl) (pv 0) (eva_cons (ev_ix o_ix (EvF.ev (evf_lst (eva_cons (ev_int pe_int) (eva_cons (ev_int pe_int) eva_nil)))) (ev_fnL F_L_below hr_L_below (pass_x rfl rfl rfl rfl) (pv 0) (eva_cons (ev_int pe_int) eva_nil)) (fun _ _ => rfl)) eva_nil)) eva_nil))))) sts_nil)
      (sts_cons (st_set .f (i := 3) sc_L_tree.nd rfl (by first | exact Or.inl rfl | exact Or.inr rfl) (ev_fnL F_L_tree hr_L_tree (pass_x rfl rfl rfl rfl) (pv 0) (eva_cons (ev_op o_sub (ev_var (pv 1)) (ev_int pe_int)) eva_nil)))
      (sts_cons (st_if .f (evt_cmp o_eqS (ev_var (pv 2)) (ev_int pe_int) (nomark _)) (sts_one (st_ret (ev_tup (eva_cons (ev_str pe_str) (eva_cons (ev_var (pv 3)) (eva_cons (ev_op o_sub (ev_fnL F_L_below hr_L_below (pass_x rfl rfl rfl rfl) (pv 0) (eva_cons (ev_int pe_int) eva_nil)) (ev_int pe_int)) eva_nil)))))) sts_nil)
      (sts_cons (st_if .f (evt_cmp o_eqS (ev_var (pv 2)) (ev_int pe_int) (nomark _)) (sts_one (st_ret (ev_tup (eva_cons (ev_str pe_str) (eva_cons (ev_var (pv 3)) eva_nil))))) sts_nil)
      (sts_cons (st_set .f (i := 4) sc_L_tree.nd rfl (by first | exact Or.inl rfl | exact Or.inr rfl) (ev_fnL F_L_tree hr_L_tree (pass_x rfl rfl rfl rfl) (pv 0) (eva_cons (ev_op o_sub (ev_var (pv 1)) (ev_int pe_int)) eva_nil)))
      (sts_cons (st_if .f (evt_cmp o_lt (ev_var (pv 2)) (ev_int pe_int) (nomark _)) (sts_one (st_ret (ev_tup (eva_cons (ev_str pe_str) (eva_cons (ev_var (pv 3)) (eva_cons (ev_var (pv 4)) eva_nil)))))) sts_nil)
      (sts_cons (st_if .f (evt_w (evw_or (evt_cmp o_lt (ev_var (pv 2)) (ev_int pe_int) (nomark _)) (evw_or1 (evt_not (evt_val (ev_fn F_L_is_forward hr_L_is_forward (pass_x rfl rfl rfl rfl) (eva_cons (ev_var (pv 3)) eva_nil))))))) (sts_one (st_ret (ev_tup (eva_cons (ev_str pe_str) (eva_cons (ev_var (pv 3)) (eva_cons (ev_var (pv 4)) eva_nil)))))) sts_nil)
      (sts_one (st_ret (ev_tup (eva_cons (ev_str pe_str) (eva_cons (ev_var (pv 3)) (eva_cons (ev_var (pv 4)) eva_nil))))))))))))))
theorem fn_L_tree (S : SayL K mg) : Fn P w K mg base (L2.CX P w) 33 "_law_tree" ["_law_d", "_law_deep"] (spL K 2 f_L_tree) := (fr_L_tree S 4).mono (by decide)
theorem sc_Rig_is_forward : FnScope ["self"] ["self"] (defScope s_Rig_is_forward) := ⟨rfl, rfl, rfl, by decide +kernel, rfl, by decide +kernel, by decide +kernel⟩
theorem fn_Rig_is_forward (S : SayL K mg) : PrB P w K mg base (L2.CX P w) 3 (He.ga K "Rig") "is_forward" ["self"] (spP K 1 f_Rig_is_forward) := by
  have F_never_falls := fn_never_falls (P := P) (w := w) (base := base) S
  refine (prP (own := []) (own' := []) (g := m_Rig_is_forward) s_Rig_is_forward S 2 rfl sc_Rig_is_forward (fun _ _ _ _ _ _ us hl => match us, hl with | [_], _ => rfl) rfl (by decide) (fun f cdv A outer s H E hr => ?_)).imp pure_imp
  have hu := hu_of hr
  have hr_never_falls : Room 1 _ := hr.mono (by decide)
  have hr1_never_falls : Room 2 _ := hr.mono (by decide)
  exact (sts_one (st_ret (ev_fn F_never_falls hr_never_falls (pass_x rfl rfl rfl rfl) (eva_cons (ev_fld (C_Rig S) (N_Rig_told S) (ev_var (pv 0))) eva_nil))))
theorem sc_pull_of : FnScope ["arms", "slack", "arm"] ["arms"] (defScope s_pull_of) := ⟨rfl, rfl, rfl, by decide +kernel, rfl, by decide +kernel, by decide +kernel⟩
theorem fn_pull_of (S : SayL K mg) : Fn P w K mg base (L2.CX P w) 1 "pull_of" ["arms"] (spP K 1 f_pull_of) := by
  refine (fnP (own := []) (own' := []) (g := m_pull_of) s_pull_of S 8 21 rfl rfl sc_pull_of (fun _ _ _ _ _ _ us hl => match us, hl with | [_], _ => rfl) rfl (by decide) (fun f cdv A outer s H E hr => ?_)).imp pure_imp
  have hu := hu_of hr
  exact (sts_one (st_ret (ev_b (c_sum rfl) (by rfl) (S_sum S) (by decide +kernel) (eva_cons (EvF.ev (evf_lc (own := [("slack", 1), ("arm", 2)]) rfl rfl sc_pull_of.nd (evi_tup (ev_var (pv 0))) (blkOk_by (N := ["arms", "slack", "arm"]) (sc := defScope s_pull_of) (by decide +kernel)) (fun _ _ _ _ _ => (pg_tup (n := 2) rfl (pgs_cons (pg_name (i := 1) sc_pull_of.nd rfl (by first | exact Or.inl rfl | exact Or.inr rfl)) (pgs_cons (pg_name (i := 2) sc_pull_of.nd rfl (by first | exact Or.inl rfl | exact Or.inr rfl)) pgs_nil)))) (tg_tup (tgs_cons (tg_name (by decide)) (tgs_cons (tg_name (by decide)) tgs_nil))) (fun _ _ _ _ _ => pts_yes) (fun _ _ _ _ _ => (ev_ty c_int1 (by rfl) (S_int S) (by decide +kernel) (eva_cons (ev_var (pv 2)) eva_nil))))) eva_nil))))
theorem sc_Rig_pull : FnScope ["self"] ["self"] (defScope s_Rig_pull) := ⟨rfl, rfl, rfl, by decide +kernel, rfl, by decide +kernel, by decide +kernel⟩
theorem fn_Rig_pull (S : SayL K mg) : PrB P w K mg base (L2.CX P w) 3 (He.ga K "Rig") "pull" ["self"] (spP K 1 f_Rig_pull) := by
  have F_pull_of := fn_pull_of (P := P) (w := w) (base := base) S
  refine (prP (own := []) (own' := []) (g := m_Rig_pull) s_Rig_pull S 1 rfl sc_Rig_pull (fun _ _ _ _ _ _ us hl => match us, hl with | [_], _ => rfl) rfl (by decide) (fun f cdv A outer s H E hr => ?_)).imp pure_imp
  have hu := hu_of hr
  have hr_pull_of : Room 1 _ := hr.mono (by decide)
  have hr1_pull_of : Room 2 _ := hr.mono (by decide)
  exact (sts_one (st_ret (ev_fn F_pull_of hr_pull_of (pass_x rfl rfl rfl rfl) (eva_cons (ev_fld (C_Rig S) (N_Rig_told S) (ev_var (pv 0))) eva_nil))))
theorem sc_law : FnScope ["_law_script", "_law_d", "_law_slacks", "_law_three", "_law_step_here", "_law_one", "_law_two", "_law_times", "_law_k"] ["_law_script"] (defScope s_law) := ⟨rfl, rfl, rfl, by decide +kernel, rfl, by decide +kernel, by decide +kernel⟩
theorem fn_law (S : SayL K mg) (hlaw : ∀ st, stOk st = true → ∃ R', m_law (lawStart 9) [.lst (st.map D.int)] = .rt (.bl true) R') : Fn P w K mg base CX0 35 "law" ["_law_script"] (spLaw K) := by
  have F_L_random := fn_L_random (P := P) (w := w) (base := base) S
  have F_L_below := fn_L_below (P := P) (w := w) (base := base) S
  have F_Rig_eq := fn_Rig_eq (P := P) (w := w) (base := base) S
  have F_rod := fn_rod (P := P) (w := w) (base := base) S
  have F_Rig_rshift := fn_Rig_rshift (P := P) (w := w) (base := base) S
  have F_L_rig := fn_L_rig (P := P) (w := w) (base := base) S
  have F_L_tree := fn_L_tree (P := P) (w := w) (base := base) S
  have F_Rig_sub := fn_Rig_sub (P := P) (w := w) (base := base) S
  have F_Rig_neg := fn_Rig_neg (P := P) (w := w) (base := base) S
  have F_Rig_add := fn_Rig_add (P := P) (w := w) (base := base) S
  have F_Rig_mul := fn_Rig_mul (P := P) (w := w) (base := base) S
  have F_Rig_is_forward := fn_Rig_is_forward (P := P) (w := w) (base := base) S
  have F_Rig_pull := fn_Rig_pull (P := P) (w := w) (base := base) S
  refine law_mk (k := 34) (n := 9) (salt := 5) (own := []) (own' := []) (g := m_law) s_law S 43 44 rfl rfl sc_law (fun _ _ _ _ _ _ us hl => match us, hl with | [_], _ => rfl) rfl (by decide) (by decide) rfl (by decide) (fun f cdv A outer s H E hr => ?_) (fun f cdv A outer s H E hr => ?_) hlaw
  · have hr_L_random : Room 1 _ := hr.mono (by decide)
    exact (ps_set (i := 1) sc_law.nd rfl (by first | exact Or.inl rfl | exact Or.inr rfl) (pe_fn F_L_random hr_L_random pass0 (pa_cons (pv 0) (pa_cons pe_int pa_nil))))
  · have hu := hu_of hr
    have hr_L_random : Room 1 _ := hr.mono (by decide)
    have hr1_L_random : Room 2 _ := hr.mono (by decide)
    have hr_L_below : Room 1 _ := hr.mono (by decide)
    have hr1_L_below : Room 2 _ := hr.mono (by decide)
    have hr_Rig_eq : Room 1 _ := hr.mono (by decide)
    have hr1_Rig_eq : Room 2 _ := hr.mono (by decide)
    have hr_rod : Room 5 _ := hr.mono (by decide)
    have hr1_rod : Room 6 _ := hr.mono (by decide)
    have hr_Rig_rshift : Room 7 _ := hr.mono (by decide)
    have hr1_Rig_rshift : Room 8 _ := hr.mono (by decide)
    have hr_L_rig : Room 22 _ := hr.mono (by decide)
    have hr1_L_rig : Room 23 _ := hr.mono (by decide)
    have hr_L_tree : Room 33 _ := hr.mono (by decide)
    have hr1_L_tree : Room 34 _ := hr.mono (by decide)
    have hr_Rig_sub : Room 5 _ := hr.mono (by decide)
    have hr1_Rig_sub : Room 6 _ := hr.mono (by decide)
    have hr_Rig_neg : Room 5 _ := hr.mono (by decide)
    have hr1_Rig_neg : Room 6 _ := hr.mono (by decide)
    have hr_Rig_add : Room 5 _ := hr.mono (by decide)
    have hr1_Rig_add : Room 6 _ := hr.mono (by decide)
    have hr_Rig_mul : Room 5 _ := hr.mono (by decide)
    have hr1_Rig_mul : Room 6 _ := hr.mono (by decide)
    have hr_Rig_is_forward : Room 3 _ := hr.mono (by decide)
    have hr1_Rig_is_forward : Room 4 _ := hr.mono (by decide)
    have hr_Rig_pull : Room 3 _ := hr.mono (by decide)
    have hr1_Rig_pull : Room 4 _ := hr.mono (by decide)
    exact (sts_cons ((st_setLc .f (i := 2) (ow := [("_law_k", 8)]) rfl rfl sc_law.nd rfl rfl (sw_true rfl rfl rfl (by decide +kernel)) (evi_of (evi_rng1 (by rfl) (S_range S) (eva_cons (ev_int pe_int) eva_nil))) (blkOk_by (N := ["_law_script", "_law_d", "_law_slacks", "_law_three", "_law_step_here", "_law_one", "_law_two", "_law_times", "_law_k"]) (sc := defScope s_law) (by decide +kernel)) (fun _ _ _ _ _ => (pg_name (i := 8) sc_law.nd rfl (by first | exact Or.inl rfl | exact Or.inr rfl))) (tg_name (by decide)) (fun _ _ _ _ _ => pts_yes) (fun _ _ _ _ _ => (ev_fnL F_L_below hr_L_below pass_no (pv 1) (eva_cons (ev_int pe_int) eva_nil)))).1)
      (sts_cons (st_if .f (evt_cmp (o_neI F_Rig_eq (X_ne_Rig S) hr1_Rig_eq pass_no) (ev_op (o_ownB F_Rig_rshift (X_sf_Rig S) hr_Rig_rshift pass_no) (ev_fn F_rod hr_rod pass_no (eva_cons (ev_ix o_ix (ev_var (pv 2)) (ev_int pe_int) (fun _ _ => rfl)) eva_nil)) (ev_fn F_rod hr_rod pass_no (eva_cons (ev_ix o_ix (ev_var (pv 2)) (ev_int pe_int) (fun _ _ => rfl)) eva_nil))) (ev_fn F_rod hr_rod pass_no (eva_cons (ev_op o_add (ev_ix o_ix (ev_var (pv 2)) (ev_int pe_int) (fun _ _ => rfl)) (ev_ix o_ix (ev_var (pv 2)) (ev_int pe_int) (fun _ _ => rfl))) eva_nil)) (nomark _)) (sts_one (st_ret (ev_bl pe_bl))) sts_nil)
      (sts_cons (st_set .f (i := 3) sc_law.nd rfl (by first | exact Or.inl rfl | exact Or.inr rfl) (ev_op (o_ownB F_Rig_rshift (X_sf_Rig S) hr_Rig_rshift pass_no) (ev_op (o_ownB F_Rig_rshift (X_sf_Rig S) hr_Rig_rshift pass_no) (ev_fn F_rod hr_rod pass_no (eva_cons (ev_ix o_ix (ev_var (pv 2)) (ev_int pe_int) (fun _ _ => rfl)) eva_nil)) (ev_fn F_rod hr_rod pass_no (eva_cons (ev_ix o_ix (ev_var (pv 2)) (ev_int pe_int) (fun _ _ => rfl)) eva_nil))) (ev_fn F_rod hr_rod pass_no (eva_cons (ev_ix o_ix (ev_var (pv 2)) (ev_int pe_int) (fun _ _ => rfl)) eva_nil))))
      (sts_cons (st_if .f (evt_cmp (o_neI F_Rig_eq (X_ne_Rig S) hr1_Rig_eq pass_no) (ev_var (pv 3)) (ev_op (o_ownB F_Rig_rshift (X_sf_Rig S) hr_Rig_rshift pass_no) (ev_fn F_rod hr_rod pass_no (eva_cons (ev_ix o_ix (ev_var (pv 2)) (ev_int pe_int) (fun _ _ => rfl)) eva_nil)) (ev_fn F_rod hr_rod pass_no (eva_cons (ev_op o_add (ev_ix o_ix (ev_var (pv 2)) (ev_int pe_int) (fun _ _ => rfl)) (ev_ix o_ix (ev_var (pv 2)) (ev_int pe_int) (fun _ _ => rfl))) eva_nil))) (nomark _)) (sts_one (st_ret (ev_bl pe_bl))) sts_nil)
      (sts_cons (st_forR .f (vs := [4]) PassesOwn.never rfl (evi_rng1 (by rfl) (S_range S) (eva_cons (ev_int pe_int) eva_nil)) ⟨(pg_name (i := 4) sc_law.nd rfl (by first | exact Or.inl rfl | exact Or.inr rfl)), (tg_name (by decide))⟩ (sts_cons (st_asg .f (vs := [5, 6, 3]) (EvF.ev (evf_lc (own := [("_law_k", 8)]) rfl rfl sc_law.nd (evi_of (evi_rng1 (by rfl) (S_range S) (eva_cons (ev_int pe_int) eva_nil))) (blkOk_by (N := ["_law_script", "_law_d", "_law_slacks", "_law_three", "_law_step_here", "_law_one", "_law_two", "_law_times", "_law_k"]) (sc := defScope s_law) (by decide +kernel)) (fun _ _ _ _ _ => (pg_name (i := 8) sc_law.nd rfl (by first | exact Or.inl rfl | exact Or.inr rfl))) (tg_name (by decide)) (fun _ _ _ _ _ => pts_yes) (fun _ _ _ _ _ => (ev_fn F_L_rig hr_L_rig pass_no (eva_cons (ev_fnL F_L_tree hr_L_tree pass_no (pv 1) (eva_cons (ev_int pe_int) eva_nil)) eva_nil))))) ⟨(pg_lst (n := 3) rfl (pgs_cons (pg_name (i := 5) sc_law.nd rfl (by first | exact Or.inl rfl | exact Or.inr rfl)) (pgs_cons (pg_name (i := 6) sc_law.nd rfl (by first | exact Or.inl rfl | exact Or.inr rfl)) (pgs_cons (pg_name (i := 3) sc_law.nd rfl (by first | exact Or.inl rfl | exact Or.inr rfl)) pgs_nil)))), (tg_lst (tgs_cons (tg_name (by decide)) (tgs_cons (tg_name (by decide)) (tgs_cons (tg_name (by decide)) tgs_nil))))⟩)
      (sts_cons (st_if .f (evt_w (evw_or (evt_cmp (o_neI F_Rig_eq (X_ne_Rig S) hr1_Rig_eq pass_no) (ev_op (o_ownB F_Rig_add (X_sf_Rig S) hr_Rig_add pass_no) (ev_var (pv 5)) (ev_var (pv 6))) (ev_op (o_ownB F_Rig_add (X_sf_Rig S) hr_Rig_add pass_no) (ev_var (pv 6)) (ev_var (pv 5))) (nomark _)) (evw_or1 (evt_cmp (o_neI F_Rig_eq (X_ne_Rig S) hr1_Rig_eq pass_no) (ev_op (o_ownB F_Rig_sub (X_sf_Rig S) hr_Rig_sub pass_no) (ev_var (pv 5)) (ev_var (pv 6))) (ev_op (o_ownB F_Rig_add (X_sf_Rig S) hr_Rig_add pass_no) (ev_var (pv 5)) (ev_un (o_ownN F_Rig_neg hr_Rig_neg pass_no) (ev_var (pv 6)))) (nomark _))))) (sts_one (st_ret (ev_bl pe_bl))) sts_nil)
      (sts_cons (st_if .f (evt_cmp (o_neI F_Rig_eq (X_ne_Rig S) hr1_Rig_eq pass_no) (ev_op (o_ownB F_Rig_add (X_sf_Rig S) hr_Rig_add pass_no) (ev_op (o_ownB F_Rig_add (X_sf_Rig S) hr_Rig_add pass_no) (ev_var (pv 5)) (ev_var (pv 6))) (ev_var (pv 3))) (ev_op (o_ownB F_Rig_add (X_sf_Rig S) hr_Rig_add pass_no) (ev_var (pv 5)) (ev_op (o_ownB F_Rig_add (X_sf_Rig S) hr_Rig_add pass_no) (ev_var (pv 6)) (ev_var (pv 3)))) (nomark _)) (sts_one (st_ret (ev_bl pe_bl))) sts_nil)
      (sts_cons (st_set .f (i := 7) sc_law.nd rfl (by first | exact Or.inl rfl | exact Or.inr rfl) (ev_op o_sub (ev_fnL F_L_below hr_L_below pass_no (pv 1) (eva_cons (ev_int pe_int) eva_nil)) (ev_int pe_int)))
      (sts_cons (st_if .f (evt_cmp (o_neI F_Rig_eq (X_ne_Rig S) hr1_Rig_eq pass_no) (ev_op (o_ownT F_Rig_mul (X_mul_Rig S) hr_Rig_mul pass_no) (ev_op (o_ownB F_Rig_add (X_sf_Rig S) hr_Rig_add pass_no) (ev_var (pv 5)) (ev_var (pv 6))) (ev_var (pv 7))) (ev_op (o_ownB F_Rig_add (X_sf_Rig S) hr_Rig_add pass_no) (ev_op (o_ownT F_Rig_mul (X_mul_Rig S) hr_Rig_mul pass_no) (ev_var (pv 5)) (ev_var (pv 7))) (ev_op (o_ownT F_Rig_mul (X_mul_Rig S) hr_Rig_mul pass_no) (ev_var (pv 6)) (ev_var (pv 7)))) (nomark _)) (sts_one (st_ret (ev_bl pe_bl))) sts_nil)
      (sts_cons (st_if .f (evt_w (evw_or (evt_cmp (o_neI F_Rig_eq (X_ne_Rig S) hr1_Rig_eq pass_no) (ev_op (o_ownT F_Rig_mul (X_mul_Rig S) hr_Rig_mul pass_no) (ev_var (pv 5)) (ev_int pe_int)) (ev_op (o_ownB F_Rig_sub (X_sf_Rig S) hr_Rig_sub pass_no) (ev_var (pv 5)) (ev_var (pv 5))) (nomark _)) (evw_or1 (evt_cmp (o_neI F_Rig_eq (X_ne_Rig S) hr1_Rig_eq pass_no) (ev_un (o_ownN F_Rig_neg hr_Rig_neg pass_no) (ev_un (o_ownN F_Rig_neg hr_Rig_neg pass_no) (ev_var (pv 5)))) (ev_var (pv 5)) (nomark _))))) (sts_one (st_ret (ev_bl pe_bl))) sts_nil)
      (sts_cons (st_if .f (evt_val (ev_pr (F_Rig_is_forward.imp calm_imp) (C_Rig S) hr1_Rig_is_forward pass_no (ev_var (pv 5)) calm_ne)) (sts_cons (st_if .f (evt_cmp (o_neI F_Rig_eq (X_ne_Rig S) hr1_Rig_eq pass_no) (ev_op (o_ownB F_Rig_rshift (X_sf_Rig S) hr_Rig_rshift pass_no) (ev_var (pv 5)) (ev_op (o_ownB F_Rig_add (X_sf_Rig S) hr_Rig_add pass_no) (ev_var (pv 6)) (ev_var (pv 3)))) (ev_op (o_ownB F_Rig_add (X_sf_Rig S) hr_Rig_add pass_no) (ev_op (o_ownB F_Rig_rshift (X_sf_Rig S) hr_Rig_rshift pass_no) (ev_var (pv 5)) (ev_var (pv 6))) (ev_op (o_ownB F_Rig_rshift (X_sf_Rig S) hr_Rig_rshift pass_no) (ev_var (pv 5)) (ev_var (pv 3)))) (nomark _)) (sts_one (st_ret (ev_bl pe_bl))) sts_nil)
      (sts_cons (st_if .f (evt_cmp (o_neI F_Rig_eq (X_ne_Rig S) hr1_Rig_eq pass_no) (ev_op (o_ownB F_Rig_rshift (X_sf_Rig S) hr_Rig_rshift pass_no) (ev_var (pv 5)) (ev_op (o_ownT F_Rig_mul (X_mul_Rig S) hr_Rig_mul pass_no) (ev_var (pv 6)) (ev_var (pv 7)))) (ev_op (o_ownT F_Rig_mul (X_mul_Rig S) hr_Rig_mul pass_no) (ev_op (o_ownB F_Rig_rshift (X_sf_Rig S) hr_Rig_rshift pass_no) (ev_var (pv 5)) (ev_var (pv 6))) (ev_var (pv 7))) (nomark _)) (sts_one (st_ret (ev_bl pe_bl))) sts_nil)
      (sts_cons (st_if .f (evt_w (evw_and (evt_val (ev_pr (F_Rig_is_forward.imp calm_imp) (C_Rig S) hr1_Rig_is_forward pass_no (ev_var (pv 6)) calm_ne)) (evw_and1 (evt_cmp (o_neI F_Rig_eq (X_ne_Rig S) hr1_Rig_eq pass_no) (ev_op (o_ownB F_Rig_rshift (X_sf_Rig S) hr_Rig_rshift pass_no) (ev_op (o_ownB F_Rig_rshift (X_sf_Rig S) hr_Rig_rshift pass_no) (ev_var (pv 5)) (ev_var (pv 6))) (ev_var (pv 3))) (ev_op (o_ownB F_Rig_rshift (X_sf_Rig S) hr_Rig_rshift pass_no) (ev_var (pv 5)) (ev_op (o_ownB F_Rig_rshift (X_sf_Rig S) hr_Rig_rshift pass_no) (ev_var (pv 6)) (ev_var (pv 3)))) (nomark _))))) (sts_one (st_ret (ev_bl pe_bl))) sts_nil)
      (sts_one (st_if .f (evt_w (evw_or (evt_cmp o_neS (ev_pr (F_Rig_pull.imp calm_imp) (C_Rig S) hr1_Rig_pull pass_no (ev_op (o_ownB F_Rig_rshift (X_sf_Rig S) hr_Rig_rshift pass_no) (ev_var (pv 5)) (ev_var (pv 6))) calm_ne) (ev_op o_mul (ev_pr (F_Rig_pull.imp calm_imp) (C_Rig S) hr1_Rig_pull pass_no (ev_var (pv 5)) calm_ne) (ev_pr (F_Rig_pull.imp calm_imp) (C_Rig S) hr1_Rig_pull pass_no (ev_var (pv 6)) calm_ne)) (nomark _)) (evw_or1 (evt_cmp (o_neI F_Rig_eq (X_ne_Rig S) hr1_Rig_eq pass_no) (ev_op (o_ownB F_Rig_rshift (X_sf_Rig S) hr_Rig_rshift pass_no) (ev_var (pv 5)) (ev_fn F_rod hr_rod pass_no (eva_cons (ev_int pe_int) eva_nil))) (ev_var (pv 5)) (nomark _))))) (sts_one (st_ret (ev_bl pe_bl))) sts_nil))))) sts_nil)
      (sts_one (st_if .f (evt_w (evw_or (evt_cmp (o_neI F_Rig_eq (X_ne_Rig S) hr1_Rig_eq pass_no) (ev_op (o_ownB F_Rig_rshift (X_sf_Rig S) hr_Rig_rshift pass_no) (ev_fn F_rod hr_rod pass_no (eva_cons (ev_int pe_int) eva_nil)) (ev_var (pv 5))) (ev_var (pv 5)) (nomark _)) (evw_or (evt_cmp o_neS (ev_pr (F_Rig_pull.imp calm_imp) (C_Rig S) hr1_Rig_pull pass_no (ev_op (o_ownB F_Rig_add (X_sf_Rig S) hr_Rig_add pass_no) (ev_var (pv 5)) (ev_var (pv 6))) calm_ne) (ev_op o_add (ev_pr (F_Rig_pull.imp calm_imp) (C_Rig S) hr1_Rig_pull pass_no (ev_var (pv 5)) calm_ne) (ev_pr (F_Rig_pull.imp calm_imp) (C_Rig S) hr1_Rig_pull pass_no (ev_var (pv 6)) calm_ne)) (nomark _)) (evw_or1 (evt_cmp (o_neI F_Rig_eq (X_ne_Rig S) hr1_Rig_eq pass_no) (ev_op (o_ownT F_Rig_mul (X_mul_Rig S) hr_Rig_mul pass_no) (ev_var (pv 5)) (ev_int pe_int)) (ev_var (pv 5)) (nomark _)))))) (sts_one (st_ret (ev_bl pe_bl))) sts_nil))))))))))
      (sts_one (st_ret (ev_bl pe_bl))))))))
end
end Lw
namespace Lw
open PySem PySem.Spec PyProof.Rows L2 Sr
def lawK : Nat := 35
theorem facts {P : Program} {w : World} {K : PySem.W.Frag} {mg : Str → Option Value} {f : Addr} (S : SayL K mg) (hfa : mg ("law" : Str) = some (.ref f)) :
    ∃ fd : FuncData, (∀ (s : Shared) (v : Value), BindsTo s fd ⟨[v], []⟩ [("_law_script", v)]) ∧ ∀ base : Heap, K.In base → base.Ns mainGlobals mg → FnOk P w K mg base CX0 lawK f fd ["_law_script"] (spLaw K) := by
  obtain ⟨fd, F⟩ := S.c.def_ 43 (d := d_law) rfl
  have b := FunD.bindsA (ps := ["_law_script"]) F fun _ _ _ _ _ _ us hl => match us, hl with | [_], _ => rfl
  have ef : f = He.fAd K d_law.at_ := by
    have h1 := S_law S
    rw [hfa] at h1
    cases h1
    rfl
  subst ef
  refine ⟨fd, fun s v => b s [v] rfl, fun base _ _ => ?_⟩
  obtain ⟨f', fd', h1, h2, h3, h4, oc, od, osl, h5⟩ := (fn_law (P := P) (w := w) (base := base) S hlaw).ex
  rw [hfa] at h1
  cases h1
  obtain ⟨oc', od', osl', h6⟩ := F.at_
  have e : fd' = fd := by
    have := h5.symm.trans h6
    injection this with this
    injection this with _ _ this _
    injection this
  subst e
  exact h4
end Lw
namespace Lw
open PySem PySem.Spec PyProof.Rows L2 Sr
abbrev R : PySem.W.OpenRow := PySem.W.OpenLaw.row PySem.Challenge.rw_slackrods_k05_whole_chains_and_sums
abbrev hk : PySem.W.Hook := hookM 7 fa fn gt ex
def ob (s : PySem.W.SharedT) : AlM := obM 7 fa fn gt ex (HandSHeadRun.getT s)
theorem ob_eq (s : PySem.W.SharedT) : ob s = hk.obs s.abs := obM_eq (HandSHeadRun.getT_eq s)
def loose0 : List PySem.Str := ["_wall", "RodError", "InvalidSlack", "InvalidTimes", "NotForward", "TooGreat", "InvalidPlace", "InvalidRow", "FAR", "MAX_ROW", "is_int", "is_int_in", "is_place", "check_row", "moved", "followed", "MAX_SLACK", "MAX_TIMES", "MAX_ARMS", "MAX_DEEP", "curve_of", "pull_of", "end_at", "never_falls", "sorted_arms", "added", "bent", "greatest_slack", "driven", "Rig"]
def loose1 : List PySem.Str := ["ends_from", "ends_of", "rod", "_law_random", "_law_below", "_law_rig", "_law_rest", "_law_steps", "_law_step", "_law_path", "_law_curve", "_law_total", "_law_is_forward", "_law_tree"]
def loose : List PySem.Str := loose0 ++ loose1
theorem run (w : World) : HandSHeadRun.RunEq R (PySem.W.view R.prog [49]) hk ob 6000 loose w := by
  intro os
  kernel_rfl
end Lw
open PySem PySem.W PySem.Calls PyProof.Rows
set_option maxHeartbeats 0 in
theorem PySem.Challenge.cw_slackrods_k05_whole_chains_and_sums_holds : PySem.Challenge.rw_slackrods_k05_whole_chains_and_sums.Holds := by
  w_on; o_law
  refine HandSHeadRun.head_any (r := OpenLaw.row PySem.Challenge.rw_slackrods_k05_whole_chains_and_sums) (q := view (OpenLaw.row PySem.Challenge.rw_slackrods_k05_whole_chains_and_sums).prog [49]) (H := Lw.hk) (ob := Lw.ob) (M := 6000) (loose := Lw.loose) (d := HandSHeadRun.topDef (OpenLaw.row PySem.Challenge.rw_slackrods_k05_whole_chains_and_sums).prog 49) (kwd := []) Lw.ob_eq
    (by kernel_rfl) (fun s => by kernel_rfl) Lw.run (by kernel_rfl) (by kernel_rfl) (by kernel_rfl) (by rfl) (by first | assumption | decide +kernel) (by decide +kernel) ⟨rfl, rfl, rfl, rfl, rfl, by decide +kernel⟩ ?hw ?hc
  case hw => w_witness2
  case hc =>
    refine L2.walk_ofE (l := PySem.Challenge.rw_slackrods_k05_whole_chains_and_sums) (n := 63) (k := Lw.lawK) (x := "_law_script") (CX := L2.CX0) rfl (by decide) (by kernel_rfl) ⟨rfl, by decide, by decide⟩ ?F (fun _ _ _ _ z => z)
    intro w mg fa h Y G hmg0
    obtain ⟨K, KX, c, p, m⟩ := Y
    have hmg : mg ("law" : PySem.Str) = some (.ref fa) := by
      have e : (HandSHeadRun.topDef (OpenLaw.row PySem.Challenge.rw_slackrods_k05_whole_chains_and_sums).prog 49).name = ("law" : PySem.Str) := by kernel_rfl
      rw [← e]
      exact hmg0
    have S : Lw.SayL K mg := ⟨⟨h, KX, G⟩, c, p, m⟩
    obtain ⟨fd, hb, hF⟩ := Lw.facts (P := (PySem.Challenge.rw_slackrods_k05_whole_chains_and_sums).prog) (w := w) S hmg
    exact ⟨K, fd, Sr.spLaw K, KX, hb, fun H a ns hl _ hS => ⟨a, ns, rfl, hS, hl, fun _ => rfl⟩, hF⟩

