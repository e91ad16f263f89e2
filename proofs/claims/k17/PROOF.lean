import PyProof.Rows.All
import Wide.All
import OpenK.AllK
import Wide.FinOn
import KE.KStateDown
import HandS.ForMost
import HandS.ForExc
import HandS.Flow
import HandS.Style
import HandS.Defaults
import HandS.IsInst
import HandS.Property
import HandS.Star
import HandS.TupAny
import HandS.Walk
import HandS.Zip
import HandS.Conv
import HandS.Wide
import HandS.SortInts
import HandS.Head0
import HandS.Head1
import HandS.Head2
import HandS.HeadEnd
import HandS.HeadHook1
import HandS.HeadHook2
import KE.GoesMore
import KE.GoesEnum
import HandS.OwnEq
import HandS.More
import OpenK.KMeth
import KE.KOpsOwn
import PyProof.InstNe
import PyProof.P3In
import PyProof.EqLayable
import PySem.Challenge.RW_slackrods_k17_whole_unlike_memories_are
set_option Elab.async false
set_option linter.all false
set_option maxRecDepth 100000
set_option maxHeartbeats 4000000
/-! plain mathematics: memories. A memory's places are held as a list, the LAST place first. -/
namespace Mt
def iabs (a : Int) : Int := if a < 0 then -a else a
/-- the place p, moved to upward or downward, is behind b -/
def pas (up : Bool) (p b : Int) : Bool := if up then decide (b ≤ p) else decide (p ≤ b)
/-- what is popped: found (last first), heights -/
def shrink (up : Bool) (p : Int) : List Int → List Int → List Int × List Int
  | a :: b :: r, hs => if pas up p b = true then shrink up p r (hs ++ [iabs (a - b)]) else (a :: b :: r, hs)
  | [a], hs => ([a], hs)
  | [], hs => ([], hs)
def movedR (rs : List Int) (p : Int) : List Int × List Int := match rs with
  | [] => ([p], [])
  | a :: r => if p = a then (a :: r, []) else
    let up := decide (a < p)
    let f := if up = decide ((r.length + 1) % 2 = 0) then r else a :: r
    (p :: (shrink up p f []).1, (shrink up p f []).2)
def followR (rs : List Int) : List Int → List Int × List Int
  | [] => (rs, [])
  | p :: row => ((followR (movedR rs p).1 row).1, (movedR rs p).2 ++ (followR (movedR rs p).1 row).2)
theorem shrink_len (up : Bool) (p : Int) : ∀ (n : Nat) (f hs : List Int), f.length ≤ n → (shrink up p f hs).1.length ≤ f.length ∧ (shrink up p f hs).2.length ≤ hs.length + f.length
  | _, [], hs, _ => by simp [shrink]
  | _, [a], hs, _ => by simp [shrink]
  | 0, a :: b :: r, hs, h => by simp at h
  | n + 1, a :: b :: r, hs, h => by
    unfold shrink
    split
    · have ih := shrink_len up p n r (hs ++ [iabs (a - b)]) (by simp at h; omega)
      simp at ih ⊢
      omega
    · simp
theorem moved_len (rs : List Int) (p : Int) : (movedR rs p).1.length ≤ rs.length + 1 ∧ (movedR rs p).2.length ≤ rs.length := by
  cases rs with
  | nil => simp [movedR]
  | cons a r =>
    unfold movedR
    dsimp only
    split
    · simp
    · split
      · have := shrink_len (decide (a < p)) p r.length r [] (Nat.le_refl _)
        simp at this ⊢; omega
      · have := shrink_len (decide (a < p)) p (a :: r).length (a :: r) [] (Nat.le_refl _)
        simp at this ⊢; omega
theorem moved_ne (rs : List Int) (p : Int) : (movedR rs p).1 ≠ [] := by
  cases rs with
  | nil => simp [movedR]
  | cons a r =>
    unfold movedR
    dsimp only
    split
    · simp
    · simp
theorem moved_head (rs : List Int) (p : Int) : ∃ t, (movedR rs p).1 = p :: t := by
  cases rs with
  | nil => exact ⟨_, rfl⟩
  | cons a r =>
    unfold movedR
    dsimp only
    split
    · rename_i h; exact ⟨r, by rw [h]⟩
    · exact ⟨_, rfl⟩
theorem follow_len : ∀ (row rs : List Int), (followR rs row).1.length ≤ rs.length + row.length
  | [], rs => by simp [followR]
  | p :: row, rs => by
    have h1 := follow_len row (movedR rs p).1
    have h2 := moved_len rs p
    simp [followR]; omega
theorem follow_ne : ∀ (row rs : List Int), rs ≠ [] → (followR rs row).1 ≠ []
  | [], rs, h => by simpa [followR] using h
  | p :: row, rs, h => by
    simp only [followR]
    exact follow_ne row _ (moved_ne rs p)
theorem follow_append : ∀ (a b rs : List Int), followR rs (a ++ b) = ((followR (followR rs a).1 b).1, (followR rs a).2 ++ (followR (followR rs a).1 b).2)
  | [], b, rs => by simp [followR]
  | p :: a, b, rs => by
    simp only [List.cons_append, followR]
    rw [follow_append a b]
    simp
theorem follow_snoc (a : List Int) (p : Int) (rs : List Int) : followR rs (a ++ [p]) = ((movedR (followR rs a).1 p).1, (followR rs a).2 ++ (movedR (followR rs a).1 p).2) := by
  rw [follow_append]; simp [followR]
theorem take_succ' {α : Type} {l : List α} {i : Nat} (h : i < l.length) : l.take (i + 1) = l.take i ++ [l[i]] := by
  rw [List.take_add_one, List.getElem?_eq_getElem h]; rfl
theorem follow_take (rs row : List Int) (i : Nat) (h : i < row.length) : followR rs (row.take (i + 1)) = ((movedR (followR rs (row.take i)).1 row[i]).1, (followR rs (row.take i)).2 ++ (movedR (followR rs (row.take i)).1 row[i]).2) := by
  rw [take_succ' h, follow_snoc]
theorem shrink_cnt (up : Bool) (p : Int) : ∀ (n : Nat) (f hs : List Int), f.length ≤ n → (shrink up p f hs).1.length + 2 * (shrink up p f hs).2.length = f.length + 2 * hs.length
  | _, [], hs, _ => by simp [shrink]
  | _, [a], hs, _ => by simp [shrink]
  | 0, a :: b :: r, hs, h => by simp at h
  | n + 1, a :: b :: r, hs, h => by
    unfold shrink
    split
    · have ih := shrink_cnt up p n r (hs ++ [iabs (a - b)]) (by simp at h; omega)
      simp at ih ⊢
      omega
    · simp
theorem moved_cnt (rs : List Int) (p : Int) : (movedR rs p).1.length + 2 * (movedR rs p).2.length ≤ rs.length + 1 := by
  cases rs with
  | nil => simp [movedR]
  | cons a r =>
    unfold movedR
    dsimp only
    split
    · simp
    · split
      · have := shrink_cnt (decide (a < p)) p r.length r [] (Nat.le_refl _)
        simp at this ⊢; omega
      · have := shrink_cnt (decide (a < p)) p (a :: r).length (a :: r) [] (Nat.le_refl _)
        simp at this ⊢; omega
theorem follow_cnt : ∀ (row rs : List Int), (followR rs row).1.length + 2 * (followR rs row).2.length ≤ rs.length + row.length
  | [], rs => by simp [followR]
  | p :: row, rs => by
    have h1 := follow_cnt row (movedR rs p).1
    have h2 := moved_cnt rs p
    simp [followR]; omega
/-- whether p can follow behind the places rs (last first) -/
def isNextR : List Int → Int → Bool
  | [], p => decide (p ≤ 0)
  | [a], p => decide (a < p)
  | b :: a :: _, p => decide (min a b < p) && decide (p < max a b)
/-- a memory, last place first -/
def MemV : List Int → Prop
  | [] => True
  | a :: r => (-1000000 ≤ a ∧ a ≤ 1000000) ∧ isNextR r a = true ∧ MemV r
def MemOk (rs : List Int) : Prop := rs ≠ [] ∧ MemV rs
theorem memV_at : ∀ {rs : List Int} {k : Nat}, MemV rs → (h : k < rs.length) → (-1000000 ≤ rs[k] ∧ rs[k] ≤ 1000000) ∧ isNextR (rs.drop (k + 1)) rs[k] = true
  | a :: r, 0, m, _ => ⟨m.1, m.2.1⟩
  | a :: r, k + 1, m, h => by
    have := memV_at (rs := r) (k := k) m.2.2 (by simpa using h)
    simpa using this
theorem memV_alt : ∀ {r : List Int} {a b : Int}, MemV (b :: a :: r) → (r.length % 2 = 0 → a < b) ∧ (r.length % 2 = 1 → b < a)
  | [], a, b, m => by
    have h : decide (a < b) = true := m.2.1
    exact ⟨fun _ => of_decide_eq_true h, fun h => by simp at h⟩
  | c :: r, a, b, m => by
    have ih := memV_alt (r := r) (a := c) (b := a) m.2.2
    have h : (decide (min c a < b) && decide (b < max c a)) = true := m.2.1
    simp only [Bool.and_eq_true, decide_eq_true_eq] at h
    simp only [List.length_cons]
    constructor
    · intro e; have := ih.2 (by omega); omega
    · intro e; have := ih.1 (by omega); omega
theorem shrink_up (p : Int) : ∀ (n : Nat) (f hs : List Int), f.length ≤ n → f.length % 2 = 1 → MemV f → (∀ x t, f = x :: t → x < p) → MemV (shrink true p f hs).1 ∧ isNextR (shrink true p f hs).1 p = true ∧ (shrink true p f hs).1 ≠ []
  | _, [], hs, _, h, _, _ => by simp at h
  | _, [a], hs, _, _, m, h => by
    have := h a [] rfl
    simp [shrink, isNextR, m, this]
  | 0, a :: b :: r, hs, h, _, _, _ => by simp at h
  | n + 1, a :: b :: r, hs, h, ho, m, hx => by
    unfold shrink
    split
    · rename_i c
      have cb : b ≤ p := by simpa [pas] using c
      refine shrink_up p n r _ (by simp at h; omega) (by simp at ho; omega) m.2.2.2.2 ?_
      intro x t e
      subst e
      have := (memV_alt m.2.2).1 (by simp at ho; omega)
      omega
    · rename_i c
      have cb : p < b := by simpa [pas] using c
      have ha := hx a (b :: r) rfl
      refine ⟨m, ?_, by simp⟩
      simp only [isNextR, Bool.and_eq_true, decide_eq_true_eq]
      omega
theorem shrink_dn (p : Int) : ∀ (n : Nat) (f hs : List Int), f.length ≤ n → f.length % 2 = 0 → MemV f → (∀ x t, f = x :: t → p < x) → (f = [] → p ≤ 0) → MemV (shrink false p f hs).1 ∧ isNextR (shrink false p f hs).1 p = true
  | _, [], hs, _, h, _, _, h0 => by
    have := h0 rfl
    simp [shrink, isNextR, MemV, this]
  | _, [a], hs, _, h, m, _, _ => by simp at h
  | 0, a :: b :: r, hs, h, _, _, _, _ => by simp at h
  | n + 1, a :: b :: r, hs, h, ho, m, hx, _ => by
    unfold shrink
    split
    · rename_i c
      have cb : p ≤ b := by simpa [pas] using c
      refine shrink_dn p n r _ (by simp at h; omega) (by simp at ho; omega) m.2.2.2.2 ?_ ?_
      · intro x t e
        subst e
        have := (memV_alt m.2.2).2 (by simp at ho; omega)
        omega
      · intro e
        subst e
        have h1 : decide (b ≤ 0) = true := m.2.2.2.1
        have := of_decide_eq_true h1
        omega
    · rename_i c
      have cb : b < p := by simpa [pas] using c
      have ha := hx a (b :: r) rfl
      refine ⟨m, ?_⟩
      simp only [isNextR, Bool.and_eq_true, decide_eq_true_eq]
      omega
theorem memV_moved {rs : List Int} {p : Int} (m : MemV rs) (hne : rs ≠ []) (hp : -1000000 ≤ p ∧ p ≤ 1000000) : MemV (movedR rs p).1 := by
  cases rs with
  | nil => exact absurd rfl hne
  | cons a r =>
    unfold movedR
    dsimp only
    split
    · exact m
    · rename_i hpa
      by_cases up : a < p
      · have hu : decide (a < p) = true := decide_eq_true up
        simp only [hu]
        split
        · rename_i e
          have ev : (r.length + 1) % 2 = 0 := of_decide_eq_true e.symm
          have := shrink_up p r.length r [] (Nat.le_refl _) (by omega) m.2.2 (fun x t e => by
            subst e
            have := (memV_alt m).1 (by simp at ev; omega)
            omega)
          exact ⟨hp, this.2.1, this.1⟩
        · rename_i e
          have ev : ¬ (r.length + 1) % 2 = 0 := fun z => e (decide_eq_true z).symm
          have := shrink_up p (a :: r).length (a :: r) [] (Nat.le_refl _) (by simp; omega) m (fun x t e => by cases e; exact up)
          exact ⟨hp, this.2.1, this.1⟩
      · have hu : decide (a < p) = false := decide_eq_false up
        simp only [hu]
        split
        · rename_i e
          have ev : ¬ (r.length + 1) % 2 = 0 := of_decide_eq_false e.symm
          have := shrink_dn p r.length r [] (Nat.le_refl _) (by omega) m.2.2 (fun x t e => by
            subst e
            have := (memV_alt m).2 (by simp at ev; omega)
            omega) (fun e => by
            subst e
            have h1 : decide (a ≤ 0) = true := m.2.1
            have := of_decide_eq_true h1
            omega)
          exact ⟨hp, this.2, this.1⟩
        · rename_i e
          have ev : (r.length + 1) % 2 = 0 := by
            by_cases z : (r.length + 1) % 2 = 0
            · exact z
            · exact absurd (decide_eq_false z).symm e
          have := shrink_dn p (a :: r).length (a :: r) [] (Nat.le_refl _) (by simpa using ev) m (fun x t e => by cases e; omega) (fun e => by cases e)
          exact ⟨hp, this.2, this.1⟩
theorem memOk_follow : ∀ (row rs : List Int), MemOk rs → (∀ n ∈ row, -1000000 ≤ n ∧ n ≤ 1000000) → MemOk (followR rs row).1
  | [], rs, m, _ => m
  | p :: row, rs, m, h => by
    simp only [followR]
    exact memOk_follow row _ ⟨moved_ne rs p, memV_moved m.2 m.1 (h p (by simp))⟩ (fun n hn => h n (by simp [hn]))
theorem memOk_rest : MemOk [0] := ⟨by simp, by simp [MemV, isNextR]⟩
def memR (row : List Int) : List Int := (followR [0] row).1
/-- the row of a memory (last first) -/
def rowOf (rs : List Int) : List Int := if rs.reverse.head? = some 0 then rs.reverse.tail else rs.reverse
end Mt

/-! plain mathematics: the memory by its meaning -/
namespace Mt
/-- p is at or behind a (low: not above it) -/
def trig (low : Bool) (a p : Int) : Bool := if low then decide (p ≤ a) else decide (a ≤ p)
/-- one more place, by the places from the first on -/
def addF : Bool → List Int → Int → List Int
  | _, [], p => [p]
  | low, a :: r, p => if trig low a p = true then [p] else a :: addF (!low) r p
/-- ps are the turning places of the walk w, beginning with its lowest (low) or highest place -/
inductive LM : Bool → List Int → List Int → Prop
  | stop {low : Bool} {u : List Int} {a : Int} (h : ∀ x ∈ u ++ [a], trig low x a = true) : LM low (u ++ [a]) [a]
  | go {low : Bool} {u v : List Int} {a : Int} {ps : List Int} (h : ∀ x ∈ u ++ a :: v, trig low x a = true) (hv : v ≠ []) (hn : a ∉ v) (r : LM (!low) (a :: v) ps) : LM low (u ++ a :: v) (a :: ps)
theorem snoc_last {l m : List Int} {a b : Int} (h : l ++ [a] = m ++ [b]) : a = b := by
  have e := congrArg List.reverse h
  rw [List.reverse_append, List.reverse_append] at e
  exact (List.cons.inj e).1
theorem trig_self (low : Bool) (a : Int) : trig low a a = true := by cases low <;> simp [trig]
theorem trig_anti {low : Bool} {a b : Int} (h1 : trig low a b = true) (h2 : trig low b a = true) : a = b := by
  cases low <;> simp [trig] at h1 h2 <;> omega
theorem trig_trans {low : Bool} {a b c : Int} (h1 : trig low a b = true) (h2 : trig low b c = true) : trig low a c = true := by
  cases low <;> simp [trig] at h1 h2 ⊢ <;> omega
theorem trig_total {low : Bool} {a b : Int} (h : ¬ trig low a b = true) : trig low b a = true := by
  cases low <;> simp [trig] at h ⊢ <;> omega
theorem trig_not {low : Bool} {a b : Int} (h : ¬ trig low a b = true) : trig (!low) a b = true := by
  cases low <;> simp [trig] at h ⊢ <;> omega
theorem last_split {a : Int} : ∀ {u v u' v' : List Int}, u ++ a :: v = u' ++ a :: v' → a ∉ v → a ∉ v' → v = v'
  | [], v, [], v', e, _, _ => by simpa using e
  | [], v, x :: u', v', e, h, _ => by
    simp at e
    exact absurd (by rw [e.2]; simp) h
  | x :: u, v, [], v', e, _, h => by
    simp at e
    exact absurd (by rw [← e.2]; simp) h
  | x :: u, v, y :: u', v', e, h, h' => by
    simp at e
    exact last_split e.2 h h'
theorem LM.head {low : Bool} {w ps : List Int} (h : LM low w ps) : ∃ a r u v, ps = a :: r ∧ w = u ++ a :: v ∧ a ∉ v ∧ (∀ x ∈ w, trig low x a = true) ∧ ((v = [] ∧ r = []) ∨ (v ≠ [] ∧ LM (!low) (a :: v) r)) := by
  cases h with
  | stop h => exact ⟨_, [], _, [], rfl, rfl, by simp, h, .inl ⟨rfl, rfl⟩⟩
  | go h hv hn r => exact ⟨_, _, _, _, rfl, rfl, hn, h, .inr ⟨hv, r⟩⟩
theorem LM.det : ∀ (n : Nat) {low : Bool} {w ps qs : List Int}, ps.length ≤ n → LM low w ps → LM low w qs → ps = qs
  | 0, low, w, ps, qs, hn, h, h' => by
    obtain ⟨a, r, u, v, rfl, _⟩ := h.head
    simp at hn
  | n + 1, low, w, ps, qs, hn, h, h' => by
    obtain ⟨a, r, u, v, rfl, rfl, hav, hx, hc⟩ := h.head
    obtain ⟨a', r', u', v', rfl, e, hav', hx', hc'⟩ := h'.head
    have h1 : trig low a a' = true := hx' a (by simp)
    have h2 : trig low a' a = true := hx a' (by rw [e]; simp)
    have ea := trig_anti h1 h2
    subst ea
    have ev := last_split e hav hav'
    subst ev
    rcases hc with ⟨hv, hr⟩ | ⟨hv, hr⟩
    · rcases hc' with ⟨_, hr'⟩ | ⟨hv', _⟩
      · rw [hr, hr']
      · exact absurd hv hv'
    · rcases hc' with ⟨hv', _⟩ | ⟨_, hr'⟩
      · exact absurd hv' hv
      · rw [LM.det n (by simpa using hn) hr hr']
theorem LM.snoc {low : Bool} {w ps : List Int} (h : LM low w ps) (p : Int) : LM low (w ++ [p]) (addF low ps p) := by
  induction h with
  | @stop low u a h =>
    unfold addF
    split
    · rename_i c
      refine LM.stop (u := u ++ [a]) fun x hx => ?_
      rcases List.mem_append.mp hx with hx | hx
      · exact trig_trans (h x hx) c
      · have : x = p := by simpa using hx
        rw [this]; exact trig_self _ _
    · rename_i c
      have e : u ++ [a] ++ [p] = u ++ a :: [p] := by simp
      rw [e]
      refine LM.go (fun x hx => ?_) (by simp) ?_ ?_
      · rcases List.mem_append.mp hx with hx | hx
        · exact h x (by simp [hx])
        · rcases List.mem_cons.mp hx with hx | hx
          · rw [hx]; exact trig_self _ _
          · have : x = p := by simpa using hx
            rw [this]; exact trig_total c
      · intro z
        have : a = p := by simpa using z
        rw [this] at c
        exact c (trig_self _ _)
      · show LM (!low) ([a] ++ [p]) (addF (!low) [] p)
        refine LM.stop fun x hx => ?_
        have : x = a ∨ x = p := by simpa using hx
        rcases this with e | e
        · rw [e]; exact trig_not c
        · rw [e]; exact trig_self _ _
  | @go low u v a ps h hv hn r ih =>
    unfold addF
    split
    · rename_i c
      have e : u ++ a :: v ++ [p] = (u ++ a :: v) ++ [p] := rfl
      refine LM.stop (u := u ++ a :: v) fun x hx => ?_
      rcases List.mem_append.mp hx with hx | hx
      · exact trig_trans (h x hx) c
      · have : x = p := by simpa using hx
        rw [this]; exact trig_self _ _
    · rename_i c
      have e : u ++ a :: v ++ [p] = u ++ a :: (v ++ [p]) := by simp
      rw [e]
      refine LM.go (fun x hx => ?_) (by simp) ?_ ih
      · have hx' : x ∈ (u ++ a :: v) ++ [p] := by simpa using hx
        rcases List.mem_append.mp hx' with hx | hx
        · exact h x hx
        · have : x = p := by simpa using hx
          rw [this]; exact trig_total c
      · intro z
        rcases List.mem_append.mp z with z | z
        · exact hn z
        · have : a = p := by simpa using z
          rw [this] at c
          exact c (trig_self _ _)
/-- none of the places (last first) is met by p -/
def Ins : List Int → Int → Prop
  | [], _ => True
  | a :: r, p => ¬ trig (decide (r.length % 2 = 0)) a p = true ∧ Ins r p
theorem addF_app : ∀ (f g : List Int) (p : Int), Ins f p → addF true (f.reverse ++ g) p = f.reverse ++ addF (decide (f.length % 2 = 0)) g p
  | [], g, p, _ => rfl
  | a :: r, g, p, h => by
    rw [List.reverse_cons, List.append_assoc, addF_app r ([a] ++ g) p h.2]
    show r.reverse ++ addF _ (a :: g) p = _
    rw [addF, if_neg h.1]
    simp only [List.length_cons, List.append_assoc, List.cons_append, List.nil_append]
    have e : (!decide (r.length % 2 = 0)) = decide ((r.length + 1) % 2 = 0) := by
      by_cases c : r.length % 2 = 0
      · have : ¬ (r.length + 1) % 2 = 0 := by omega
        simp [c, this]
      · have : (r.length + 1) % 2 = 0 := by omega
        simp [c, this]
    rw [e]
theorem ins_of : ∀ {f : List Int} {p : Int}, MemV f → isNextR f p = true → Ins f p
  | [], p, _, _ => trivial
  | [a], p, _, h => by
    have h : decide (a < p) = true := h
    have := of_decide_eq_true h
    refine ⟨?_, trivial⟩
    simp [trig]; exact this
  | b :: a :: r, p, m, h => by
    have alt := memV_alt m
    have h' : (decide (min a b < p) && decide (p < max a b)) = true := h
    simp only [Bool.and_eq_true, decide_eq_true_eq] at h'
    have hb : ¬ trig (decide ((r.length + 1) % 2 = 0)) b p = true := by
      by_cases c : r.length % 2 = 0
      · have c' : ¬ (r.length + 1) % 2 = 0 := by omega
        have := alt.1 c
        simp [trig, c']; omega
      · have c' : (r.length + 1) % 2 = 0 := by omega
        have := alt.2 (by omega)
        simp [trig, c']; omega
    refine ⟨hb, ?_⟩
    refine ins_of m.2.2 ?_
    cases r with
    | nil =>
      have := alt.1 rfl
      show decide (a < p) = true
      exact decide_eq_true (by omega)
    | cons c r =>
      have hb2 : (decide (min c a < b) && decide (b < max c a)) = true := m.2.1
      simp only [Bool.and_eq_true, decide_eq_true_eq] at hb2
      show (decide (min c a < p) && decide (p < max c a)) = true
      simp only [Bool.and_eq_true, decide_eq_true_eq]
      simp only [List.length_cons] at alt
      by_cases z : (r.length + 1) % 2 = 0
      · have := alt.1 z
        have := (memV_alt m.2.2).2 (by omega)
        omega
      · have := alt.2 (by omega)
        have := (memV_alt m.2.2).1 (by omega)
        omega
/-- what is left of the places is a beginning of them, and the first one that went was met -/
theorem shrink_suf (up : Bool) (p : Int) : ∀ (n : Nat) (f hs : List Int), f.length ≤ n → (up = true → f.length % 2 = 1) → (up = false → f.length % 2 = 0) →
    ∃ g, f = g ++ (shrink up p f hs).1 ∧ ∀ z a, g = z ++ [a] → trig (decide ((shrink up p f hs).1.length % 2 = 0)) a p = true
  | _, [], hs, _, _, _ => ⟨[], by simp [shrink], by simp⟩
  | _, [a], hs, _, _, _ => ⟨[], by simp [shrink], by simp⟩
  | 0, a :: b :: r, hs, h, _, _ => by simp at h
  | n + 1, a :: b :: r, hs, h, h1, h0 => by
    unfold shrink
    split
    · rename_i c
      obtain ⟨g, e, t⟩ := shrink_suf up p n r (hs ++ [iabs (a - b)]) (by simp at h; omega) (fun z => by have := h1 z; simp at this; omega) (fun z => by have := h0 z; simp at this; omega)
      refine ⟨a :: b :: g, by rw [List.cons_append, List.cons_append, ← e], fun z x hz => ?_⟩
      rcases List.eq_nil_or_concat g with hg | ⟨g', y, hg⟩
      · subst hg
        have er : (shrink up p r (hs ++ [iabs (a - b)])).1 = r := by simpa using e.symm
        have hz' : [a] ++ [b] = z ++ [x] := by simpa using hz
        have exb : b = x := by
          have := congrArg List.getLast? hz'
          simpa using this
        subst exb
        rw [er]
        cases up with
        | true =>
          have := h1 rfl
          have cz : ¬ r.length % 2 = 0 := by simp at this; omega
          simp only [cz, decide_false]
          simpa [trig, pas] using c
        | false =>
          have := h0 rfl
          have cz : r.length % 2 = 0 := by simp at this; omega
          simp only [cz, decide_true]
          simpa [trig, pas] using c
      · have hg2 : g = g' ++ [y] := by simpa using hg
        refine t g' x ?_
        have hz' : a :: b :: g' ++ [y] = z ++ [x] := by rw [← hz, hg2]; simp
        have : y = x := snoc_last (l := a :: b :: g') hz'
        rw [hg2, this]
    · exact ⟨[], rfl, by simp⟩
theorem moved_addF {rs : List Int} {p : Int} (m : MemV rs) (hne : rs ≠ []) (hp : -1000000 ≤ p ∧ p ≤ 1000000) : (movedR rs p).1.reverse = addF true rs.reverse p := by
  have mm := memV_moved m hne hp
  cases rs with
  | nil => exact absurd rfl hne
  | cons a r =>
    by_cases hpa : p = a
    · have e : (movedR (a :: r) p).1 = a :: r := by simp [movedR, hpa]
      rw [e]
      have hi := ins_of m.2.2 m.2.1
      rw [List.reverse_cons, hpa, addF_app r [a] a hi]
      rw [addF, if_pos (trig_self _ _)]
    · -- a beginning f of the places, and p
      have key : ∃ f g, a :: r = g ++ f ∧ (movedR (a :: r) p).1 = p :: f ∧ ∀ z x, g = z ++ [x] → trig (decide (f.length % 2 = 0)) x p = true := by
        unfold movedR
        dsimp only
        rw [if_neg hpa]
        by_cases c : decide (a < p) = decide ((r.length + 1) % 2 = 0)
        · rw [if_pos c]
          obtain ⟨g, e, t⟩ := shrink_suf (decide (a < p)) p r.length r [] (Nat.le_refl _) (fun z => by rw [c] at z; have := of_decide_eq_true z; omega) (fun z => by rw [c] at z; have := of_decide_eq_false z; omega)
          refine ⟨_, a :: g, by rw [List.cons_append, ← e], rfl, fun z x hz => ?_⟩
          rcases List.eq_nil_or_concat g with hg | ⟨g', y, hg⟩
          · subst hg
            have er : (shrink (decide (a < p)) p r []).1 = r := by simpa using e.symm
            have hz' : [] ++ [a] = z ++ [x] := by simpa using hz
            have exb : a = x := by
              have := congrArg List.getLast? hz'
              simpa using this
            subst exb
            rw [er]
            by_cases up : a < p
            · have : (r.length + 1) % 2 = 0 := by rw [decide_eq_true up] at c; exact of_decide_eq_true c.symm
              have cz : ¬ r.length % 2 = 0 := by omega
              simp only [cz, decide_false, trig]
              simp; omega
            · have : ¬ (r.length + 1) % 2 = 0 := by rw [decide_eq_false up] at c; exact of_decide_eq_false c.symm
              have cz : r.length % 2 = 0 := by omega
              simp only [cz, decide_true, trig]
              simp; omega
          · have hg2 : g = g' ++ [y] := by simpa using hg
            refine t g' x ?_
            have hz' : a :: g' ++ [y] = z ++ [x] := by rw [← hz, hg2]; simp
            have : y = x := snoc_last (l := a :: g') hz'
            rw [hg2, this]
        · rw [if_neg c]
          obtain ⟨g, e, t⟩ := shrink_suf (decide (a < p)) p (a :: r).length (a :: r) [] (Nat.le_refl _) (fun z => by
              simp only [List.length_cons]
              by_cases q : (r.length + 1) % 2 = 0
              · exact absurd (by rw [z, decide_eq_true q]) c
              · omega) (fun z => by
              simp only [List.length_cons]
              by_cases q : (r.length + 1) % 2 = 0
              · exact q
              · exact absurd (by rw [z, decide_eq_false q]) c)
          exact ⟨_, g, e, rfl, t⟩
      obtain ⟨f, g, e, em, t⟩ := key
      rw [em] at mm ⊢
      have hi := ins_of mm.2.2 mm.2.1
      have er : (a :: r).reverse = f.reverse ++ g.reverse := by rw [e, List.reverse_append]
      rw [er, addF_app f g.reverse p hi, List.reverse_cons]
      rcases List.eq_nil_or_concat g with hg | ⟨g', y, hg⟩
      · subst hg; rfl
      · have hg2 : g = g' ++ [y] := by simpa using hg
        have := t g' y hg2
        rw [hg2]
        simp only [List.reverse_append, List.reverse_cons, List.reverse_nil, List.nil_append, List.cons_append]
        rw [addF, if_pos this]
theorem memR_snoc (row : List Int) (p : Int) : memR (row ++ [p]) = (movedR (memR row) p).1 := by
  unfold memR; rw [follow_snoc]
theorem memR_ok {row : List Int} (h : ∀ n ∈ row, -1000000 ≤ n ∧ n ≤ 1000000) : MemOk (memR row) := memOk_follow row [0] memOk_rest h
theorem memR_LM (n : Nat) : ∀ {row : List Int}, row.length = n → (∀ n ∈ row, -1000000 ≤ n ∧ n ≤ 1000000) → LM true (0 :: row) (memR row).reverse := by
  induction n with
  | zero =>
    intro row hl _
    have : row = [] := List.eq_nil_of_length_eq_zero hl
    subst this
    show LM true ([] ++ [0]) [0]
    exact LM.stop (fun x hx => by
      have : x = 0 := by simpa using hx
      rw [this]; exact trig_self _ _)
  | succ n ih =>
    intro row hl h
    rcases List.eq_nil_or_concat row with hr | ⟨q, p, hr⟩
    · subst hr; simp at hl
    · have hr2 : row = q ++ [p] := by simpa using hr
      subst hr2
      have hq : ∀ n ∈ q, -1000000 ≤ n ∧ n ≤ 1000000 := fun n hn => h n (by simp [hn])
      have ok := memR_ok hq
      rw [memR_snoc, moved_addF ok.2 ok.1 (h p (by simp))]
      exact LM.snoc (ih (by simpa using hl) hq) p
theorem LM_memR {row ps : List Int} (h : ∀ n ∈ row, -1000000 ≤ n ∧ n ≤ 1000000) (l : LM true (0 :: row) ps) : ps = (memR row).reverse :=
  LM.det _ (Nat.le_refl _) l (memR_LM _ rfl h)
end Mt

/-! plain mathematics: rows of memories -/
namespace Mt
theorem rev_inj {a b : List Int} (h : a.reverse = b.reverse) : a = b := by
  have := congrArg List.reverse h
  simpa using this
/-- a move to a place that can follow -/
theorem moved_next {r : List Int} {p : Int} (m : MemV (p :: r)) (hne : r ≠ []) : (movedR r p).1 = p :: r := by
  apply rev_inj
  rw [moved_addF m.2.2 hne m.1]
  have h := addF_app r [] p (ins_of m.2.2 m.2.1)
  rw [List.append_nil] at h
  rw [h, List.reverse_cons]; rfl
/-- the moved places: the new one over a beginning of the old ones -/
theorem moved_suffix {rs : List Int} {p : Int} (hne : rs ≠ []) : ∃ f g, rs = g ++ f ∧ (movedR rs p).1 = p :: f := by
  cases rs with
  | nil => exact absurd rfl hne
  | cons a r =>
    by_cases hpa : p = a
    · exact ⟨r, [a], rfl, by simp [movedR, hpa]⟩
    · unfold movedR
      dsimp only
      rw [if_neg hpa]
      have key : ∀ f : List Int, (∃ h, a :: r = h ++ f) → ∃ f' g, a :: r = g ++ f' ∧ p :: (shrink (decide (a < p)) p f []).1 = p :: f' := by
        intro f ⟨h, e⟩
        obtain ⟨g, hg⟩ : ∃ g, f = g ++ (shrink (decide (a < p)) p f []).1 := by
          have aux : ∀ (n : Nat) (f hs : List Int), f.length ≤ n → ∃ g, f = g ++ (shrink (decide (a < p)) p f hs).1 := by
            intro n
            induction n with
            | zero =>
              intro f hs hn
              have : f = [] := List.eq_nil_of_length_eq_zero (by omega)
              subst this
              exact ⟨[], by simp [shrink]⟩
            | succ n ih =>
              intro f hs hn
              match f, hn with
              | [], _ => exact ⟨[], by simp [shrink]⟩
              | [x], _ => exact ⟨[], by simp [shrink]⟩
              | x :: y :: t, hn =>
                unfold shrink
                split
                · obtain ⟨g, hg⟩ := ih t (hs ++ [iabs (x - y)]) (by simp at hn; omega)
                  exact ⟨x :: y :: g, by rw [List.cons_append, List.cons_append, ← hg]⟩
                · exact ⟨[], rfl⟩
          exact aux _ f [] (Nat.le_refl _)
        exact ⟨_, h ++ g, by rw [List.append_assoc, ← hg, e], rfl⟩
      split
      · exact key r ⟨[a], rfl⟩
      · exact key (a :: r) ⟨[], rfl⟩
/-- how many moves the row of a memory has -/
def wt (rs : List Int) : Nat := (rowOf rs).length
theorem wt_eq (rs : List Int) : wt rs = rs.length - (if rs.getLast? = some 0 then 1 else 0) := by
  unfold wt rowOf
  rw [List.head?_reverse]
  split <;> simp
theorem wt_moved {rs : List Int} {p : Int} (hne : rs ≠ []) : wt (movedR rs p).1 ≤ wt rs + 1 := by
  obtain ⟨f, g, e, em⟩ := moved_suffix (p := p) hne
  rw [em, wt_eq, wt_eq]
  cases f with
  | nil => simp; split <;> omega
  | cons y f =>
    have e1 : (p :: y :: f).getLast? = rs.getLast? := by
      rw [e, List.getLast?_append]
      simp [List.getLast?_cons]
    rw [e1, e]
    simp only [List.length_append, List.length_cons]
    split <;> omega
theorem wt_follow : ∀ (row rs : List Int), rs ≠ [] → wt (followR rs row).1 ≤ wt rs + row.length
  | [], rs, _ => by simp [followR]
  | p :: row, rs, h => by
    have h1 := wt_follow row (movedR rs p).1 (moved_ne rs p)
    have h2 := wt_moved (p := p) h
    simp only [followR, List.length_cons]
    omega
theorem wt_memR (row : List Int) : wt (memR row) ≤ row.length := by
  have := wt_follow row [0] (by simp)
  have e : wt [0] = 0 := rfl
  unfold memR
  omega
/-- places in turn, from a memory that they go on from -/
theorem follow_places : ∀ (qs rs : List Int), rs ≠ [] → MemV (qs.reverse ++ rs) → (followR rs qs).1 = qs.reverse ++ rs
  | [], rs, _, _ => rfl
  | p :: qs, rs, h, m => by
    have e : (p :: qs).reverse ++ rs = qs.reverse ++ (p :: rs) := by simp
    rw [e] at m ⊢
    have tail : ∀ (a b : List Int), MemV (a ++ b) → MemV b := by
      intro a
      induction a with
      | nil => intro b h; exact h
      | cons x a ih => intro b h; exact ih b h.2.2
    have mp := tail qs.reverse (p :: rs) m
    simp only [followR]
    rw [moved_next mp h]
    exact follow_places qs (p :: rs) (by simp) m
theorem memR_row {rs : List Int} (m : MemOk rs) : memR (rowOf rs) = rs := by
  obtain ⟨hne, hv⟩ := m
  have hne' : rs.reverse ≠ [] := by simpa using hne
  obtain ⟨a, r, hr⟩ := List.exists_cons_of_ne_nil hne'
  have hrs : rs = r.reverse ++ [a] := by
    have := congrArg List.reverse hr
    simpa using this
  have hmem : ∀ (l : List Int), MemV (l ++ [a]) → (-1000000 ≤ a ∧ a ≤ 1000000) ∧ a ≤ 0 := by
    intro l
    induction l with
    | nil => intro h; exact ⟨h.1, of_decide_eq_true h.2.1⟩
    | cons x l ih => intro h; exact ih h.2.2
  have ha := hmem r.reverse (by rw [← hrs]; exact hv)
  unfold rowOf
  rw [hr]
  by_cases h0 : a = 0
  · subst h0
    simp only [List.head?_cons, List.tail_cons, if_true]
    unfold memR
    rw [follow_places r [0] (by simp) (by rw [← hrs]; exact hv), ← hrs]
  · have : ¬ ((a :: r).head? = some 0) := by simpa using h0
    rw [if_neg this]
    unfold memR
    simp only [followR]
    have em : (movedR [0] a).1 = [a] := by
      apply rev_inj
      rw [moved_addF memOk_rest.2 memOk_rest.1 ha.1]
      show addF true [0] a = [a]
      rw [addF, if_pos (by simp [trig]; exact ha.2)]
    rw [em, follow_places r [a] (by simp) (by rw [← hrs]; exact hv), ← hrs]
theorem rowOf_bound {rs : List Int} (m : MemV rs) : ∀ n ∈ rowOf rs, -1000000 ≤ n ∧ n ≤ 1000000 := by
  have h : ∀ (rs : List Int), MemV rs → ∀ n ∈ rs, -1000000 ≤ n ∧ n ≤ 1000000 := by
    intro rs
    induction rs with
    | nil => intro _ n hn; simp at hn
    | cons a r ih =>
      intro m n hn
      rcases List.mem_cons.mp hn with e | hn
      · rw [e]; exact m.1
      · exact ih m.2.2 n hn
  intro n hn
  apply h rs m
  unfold rowOf at hn
  split at hn
  · have := List.mem_of_mem_tail hn
    simpa using this
  · simpa using hn
/-- no shorter row leaves the memory -/
theorem no_shorter {row one : List Int} (h : one.length < wt (memR row)) : memR one ≠ memR row := fun e => by
  have := wt_memR one
  rw [e] at this
  omega
theorem memR_len (row : List Int) : (memR row).length ≤ row.length + 1 := by
  have := follow_len row [0]
  simp at this
  unfold memR
  omega
end Mt

/-! plain mathematics: fewest moves between memories (places from the first on) -/
namespace Mt
theorem addF_pre : ∀ (ps : List Int) (low : Bool) (p : Int), ∃ j, j ≤ ps.length ∧ addF low ps p = ps.take j ++ [p]
  | [], _, p => ⟨0, Nat.le_refl _, rfl⟩
  | a :: r, low, p => by
    by_cases c : trig low a p = true
    · exact ⟨0, Nat.zero_le _, by simp [addF, c]⟩
    · obtain ⟨j, h1, h2⟩ := addF_pre r (!low) p
      exact ⟨j + 1, by simp; omega, by simp [addF, c, h2]⟩
theorem addF_wipe : ∀ (ps : List Int) (low : Bool) (q p : Int), (addF low (addF low ps q) p).length ≤ (addF low ps q).length → addF low (addF low ps q) p = addF low ps p
  | [], low, q, p, h => by
    by_cases c : trig low q p = true
    · simp [addF, c]
    · simp [addF, c] at h
  | a :: r, low, q, p, h => by
    by_cases ca : trig low a q = true
    · have e : addF low (a :: r) q = [q] := by simp [addF, ca]
      rw [e] at h ⊢
      by_cases c : trig low q p = true
      · simp [addF, c, trig_trans ca c]
      · simp [addF, c] at h
    · have e : addF low (a :: r) q = a :: addF (!low) r q := by simp [addF, ca]
      rw [e] at h ⊢
      by_cases c : trig low a p = true
      · simp [addF, c]
      · simp only [addF, c, if_false, Bool.false_eq_true, List.length_cons] at h ⊢
        rw [addF_wipe r (!low) q p (by omega)]
theorem addF_take : ∀ (ps : List Int) (low : Bool) (p : Int) (k : Nat), (addF low ps p).length ≤ k → addF low (ps.take k) p = addF low ps p
  | [], _, p, k, h => by simp
  | a :: r, low, p, 0, h => by
    by_cases c : trig low a p = true <;> simp [addF, c] at h
  | a :: r, low, p, k + 1, h => by
    by_cases c : trig low a p = true
    · simp [addF, c]
    · simp only [addF, c, if_false, Bool.false_eq_true, List.length_cons, List.take_succ_cons] at h ⊢
      rw [addF_take r (!low) p k (by omega)]
def goF (ps ws : List Int) : Nat → Option (List Int)
  | 0 => none
  | c + 1 => if addF true ps (ws.getD c 0) = ws.take (c + 1) then some (ws.drop c) else goF ps ws c
/-- the moves that are found -/
def fewF (ps ws : List Int) : Option (List Int) := if ps = ws then some [] else goF ps ws ws.length
def Dq (ps ws : List Int) (c : Nat) : Prop := c < ws.length ∧ addF true ps (ws.getD c 0) = ws.take (c + 1)
theorem goF_some {ps ws : List Int} : ∀ {n : Nat} {m : List Int}, n ≤ ws.length → goF ps ws n = some m → ∃ c, c < n ∧ Dq ps ws c ∧ m = ws.drop c ∧ ∀ c', c < c' → c' < n → ¬ Dq ps ws c'
  | 0, m, hn, h => by simp [goF] at h
  | n + 1, m, hn, h => by
    unfold goF at h
    split at h
    · rename_i e
      cases h
      exact ⟨n, by omega, ⟨by omega, e⟩, rfl, fun c' h1 h2 => by omega⟩
    · rename_i e
      obtain ⟨c, h1, h2, h3, h4⟩ := goF_some (by omega) h
      refine ⟨c, by omega, h2, h3, fun c' h5 h6 => ?_⟩
      by_cases z : c' = n
      · rw [z]; exact fun d => e d.2
      · exact h4 c' h5 (by omega)
theorem goF_none {ps ws : List Int} : ∀ {n : Nat}, n ≤ ws.length → goF ps ws n = none → ∀ c, c < n → ¬ Dq ps ws c
  | 0, _, _, c, h => by omega
  | n + 1, hn, h, c, hc => by
    unfold goF at h
    split at h
    · cases h
    · rename_i e
      by_cases z : c = n
      · rw [z]; exact fun d => e d.2
      · exact goF_none (by omega) h c (by omega)
theorem fewF_le {ps ws : List Int} {c : Nat} (d : Dq ps ws c) : ∃ m, fewF ps ws = some m ∧ m.length ≤ ws.length - c := by
  unfold fewF
  split
  · exact ⟨[], rfl, by simp⟩
  · cases e : goF ps ws ws.length with
    | none => exact absurd d (goF_none (Nat.le_refl _) e c d.1)
    | some m =>
      obtain ⟨c', h1, h2, h3, h4⟩ := goF_some (Nat.le_refl _) e
      refine ⟨m, rfl, ?_⟩
      rw [h3, List.length_drop]
      by_cases z : c' < c
      · exact absurd d (h4 c z d.1)
      · omega
theorem fewF_cases {ps ws m : List Int} (h : fewF ps ws = some m) : (ps = ws ∧ m = []) ∨ (ps ≠ ws ∧ ∃ c, Dq ps ws c ∧ m = ws.drop c ∧ ∀ c', c < c' → ¬ Dq ps ws c') := by
  unfold fewF at h
  split at h
  · cases h
    exact .inl ⟨by assumption, rfl⟩
  · obtain ⟨c, h1, h2, h3, h4⟩ := goF_some (Nat.le_refl _) h
    exact .inr ⟨by assumption, c, h2, h3, fun c' h5 d => h4 c' h5 d.1 d⟩
theorem Dq_last (ps : List Int) (p : Int) : Dq ps (addF true ps p) ((addF true ps p).length - 1) := by
  obtain ⟨j, h1, h2⟩ := addF_pre ps true p
  have hl : (addF true ps p).length = min j ps.length + 1 := by rw [h2]; simp
  refine ⟨by omega, ?_⟩
  have e : (addF true ps p).getD ((addF true ps p).length - 1) 0 = p := by
    rw [List.getD_eq_getElem?_getD, h2]
    simp
  rw [e, List.take_of_length_le (by omega)]
/-- one move more: at most one more -/
theorem few_move {ps ws m : List Int} (h : fewF ps ws = some m) (p : Int) : ∃ m', fewF ps (addF true ws p) = some m' ∧ m'.length ≤ m.length + 1 := by
  rcases fewF_cases h with ⟨rfl, rfl⟩ | ⟨hne, c, d, rfl, _⟩
  · obtain ⟨m, h1, h2⟩ := fewF_le (Dq_last ps p)
    have : 0 < (addF true ps p).length := by
      obtain ⟨j, _, h⟩ := addF_pre ps true p
      rw [h]; simp
    exact ⟨m, h1, by simp; omega⟩
  · obtain ⟨j, hj, e⟩ := addF_pre ws true p
    have hl : (addF true ws p).length = j + 1 := by rw [e]; simp; omega
    by_cases z : j + 1 ≤ c + 1
    · have e1 := addF_take ws true p (c + 1) (by omega)
      rw [← d.2] at e1
      have hlen : (addF true ps (ws.getD c 0)).length = c + 1 := by rw [d.2, List.length_take]; have := d.1; omega
      have e2 := addF_wipe ps true (ws.getD c 0) p (by rw [e1]; omega)
      rw [e1] at e2
      rw [e2]
      obtain ⟨m, h1, h2⟩ := fewF_le (Dq_last ps p)
      refine ⟨m, h1, ?_⟩
      have := d.1
      rw [List.length_drop]
      omega
    · have e3 : (addF true ws p).take (c + 1) = ws.take (c + 1) := by
        rw [e, List.take_append_of_le_length (by simp; omega), List.take_take]
        congr 1; omega
      have e4 : (addF true ws p).getD c 0 = ws.getD c 0 := by
        have h1 := congrArg (fun l => l[c]?) e3
        simp only [List.getElem?_take, Nat.lt_succ_self, if_true] at h1
        rw [List.getD_eq_getElem?_getD, List.getD_eq_getElem?_getD]
        simpa using congrArg (fun o => o.getD 0) h1
      have d' : Dq ps (addF true ws p) c := ⟨by omega, by rw [e3, e4]; exact d.2⟩
      obtain ⟨m, h1, h2⟩ := fewF_le d'
      refine ⟨m, h1, ?_⟩
      have := d.1
      rw [List.length_drop]
      omega
/-- moves from places -/
def goesF (ps ms : List Int) : List Int := ms.foldl (addF true) ps
theorem goesF_snoc (ps ms : List Int) (p : Int) : goesF ps (ms ++ [p]) = addF true (goesF ps ms) p := by simp [goesF]
theorem goesF_app (ps ms ns : List Int) : goesF ps (ms ++ ns) = goesF (goesF ps ms) ns := by simp [goesF]
theorem few_goes (ps : List Int) : ∀ (n : Nat) (ms : List Int), ms.length = n → ∃ m, fewF ps (goesF ps ms) = some m ∧ m.length ≤ n
  | 0, ms, h => by
    have : ms = [] := List.eq_nil_of_length_eq_zero h
    subst this
    exact ⟨[], by simp [goesF, fewF], by simp⟩
  | n + 1, ms, h => by
    obtain ⟨a, p, rfl⟩ : ∃ a p, ms = a ++ [p] := ⟨ms.dropLast, ms.getLast (by intro z; simp [z] at h), (List.dropLast_concat_getLast _).symm⟩
    obtain ⟨m, h1, h2⟩ := few_goes ps n a (by simpa using h)
    obtain ⟨m', h3, h4⟩ := few_move h1 p
    rw [goesF_snoc]
    exact ⟨m', h3, by omega⟩
def Good (ws : List Int) : Prop := MemOk ws.reverse
theorem memV_drop : ∀ {rs : List Int} (k : Nat), MemV rs → MemV (rs.drop k)
  | [], k, h => by simp; exact h
  | a :: r, 0, h => h
  | a :: r, k + 1, h => memV_drop (rs := r) k h.2.2
theorem good_ins {ws : List Int} (g : Good ws) {k : Nat} (h : k < ws.length) : Ins (ws.take k).reverse ws[k] := by
  have h1 := memV_at g.2 (k := ws.length - 1 - k) (by simp; omega)
  have e : ws.reverse[ws.length - 1 - k]'(by simp; omega) = ws[k] := by rw [List.getElem_reverse]; congr 1; omega
  have e2 : ws.reverse.drop (ws.length - 1 - k + 1) = (ws.take k).reverse := by
    rw [List.drop_reverse]; congr 2; omega
  rw [e, e2] at h1
  have h2 := memV_drop (ws.length - 1 - k + 1) g.2
  rw [e2] at h2
  exact ins_of h2 h1.2
theorem good_add {ws : List Int} (g : Good ws) {k : Nat} (h : k < ws.length) (r : List Int) : addF true (ws.take k ++ r) ws[k] = ws.take k ++ addF (decide (k % 2 = 0)) r ws[k] := by
  have := addF_app (ws.take k).reverse r ws[k] (good_ins g h)
  rw [List.reverse_reverse] at this
  rw [this]
  congr 2
  simp
  rw [Nat.min_eq_left (by omega)]
theorem good_step {ws : List Int} (g : Good ws) {k : Nat} (h : k < ws.length) : addF true (ws.take k) ws[k] = ws.take (k + 1) := by
  have := good_add g h []
  rw [List.append_nil] at this
  rw [this, take_succ' h]
  rfl
theorem goes_rest {ws : List Int} (g : Good ws) : ∀ (n k : Nat), ws.length - k = n → goesF (ws.take k) (ws.drop k) = ws
  | 0, k, h => by
    rw [List.drop_of_length_le (by omega), List.take_of_length_le (by omega)]
    rfl
  | n + 1, k, h => by
    have hk : k < ws.length := by omega
    rw [List.drop_eq_getElem_cons hk]
    show goesF (addF true (ws.take k) ws[k]) (ws.drop (k + 1)) = ws
    rw [good_step g hk]
    exact goes_rest g n (k + 1) (by omega)
theorem getD_at {ws : List Int} {c : Nat} (h : c < ws.length) : ws.getD c 0 = ws[c] := by
  rw [List.getD_eq_getElem?_getD, List.getElem?_eq_getElem h]; rfl
/-- the moves that are found lead there -/
theorem few_leads {ps ws m : List Int} (g : Good ws) (h : fewF ps ws = some m) : goesF ps m = ws := by
  rcases fewF_cases h with ⟨rfl, rfl⟩ | ⟨_, c, d, rfl, _⟩
  · rfl
  · have hc := d.1
    rw [List.drop_eq_getElem_cons hc]
    show goesF (addF true ps ws[c]) (ws.drop (c + 1)) = ws
    have := d.2
    rw [getD_at hc] at this
    rw [this]
    exact goes_rest g _ (c + 1) rfl
theorem few_tri {ps ws ts m1 m2 : List Int} (gw : Good ws) (gt : Good ts) (h1 : fewF ps ws = some m1) (h2 : fewF ws ts = some m2) : ∃ m, fewF ps ts = some m ∧ m.length ≤ m1.length + m2.length := by
  have e := goesF_app ps m1 m2
  rw [few_leads gw h1, few_leads gt h2] at e
  obtain ⟨m, h3, h4⟩ := few_goes ps _ (m1 ++ m2) rfl
  rw [e] at h3
  exact ⟨m, h3, by simpa using h4⟩
theorem few_nil {ps ws : List Int} : fewF ps ws = some [] ↔ ps = ws := by
  constructor
  · intro h
    rcases fewF_cases h with ⟨h, _⟩ | ⟨_, c, d, e, _⟩
    · exact h
    · have := d.1
      have e2 := congrArg List.length e
      simp at e2
      omega
  · intro h; simp [fewF, h]
theorem few_len {ps ws m : List Int} (h : fewF ps ws = some m) : m.length ≤ ws.length := by
  rcases fewF_cases h with ⟨_, rfl⟩ | ⟨_, c, d, rfl, _⟩ <;> simp
/-- how many first places are common -/
def cpl : List Int → List Int → Nat
  | a :: r, b :: t => if a = b then cpl r t + 1 else 0
  | _, _ => 0
theorem cpl_take : ∀ (ps ws : List Int), ps.take (cpl ps ws) = ws.take (cpl ps ws) ∧ cpl ps ws ≤ ps.length ∧ cpl ps ws ≤ ws.length
  | [], ws => by simp [cpl]
  | a :: r, [] => by simp [cpl]
  | a :: r, b :: t => by
    have ih := cpl_take r t
    unfold cpl
    split
    · rename_i e
      subst e
      simp [ih.1]
      omega
    · simp
theorem le_cpl : ∀ (ps ws : List Int) (c : Nat), c ≤ ps.length → c ≤ ws.length → ps.take c = ws.take c → c ≤ cpl ps ws
  | _, _, 0, _, _, _ => Nat.zero_le _
  | [], ws, c + 1, h, _, _ => by simp at h
  | a :: r, [], c + 1, _, h, _ => by simp at h
  | a :: r, b :: t, c + 1, h1, h2, h => by
    simp at h
    have := le_cpl r t c (by simpa using h1) (by simpa using h2) h.2
    unfold cpl
    rw [if_pos h.1]
    omega
theorem take_cpl {ps ws : List Int} {c : Nat} (h : c ≤ cpl ps ws) : ps.take c = ws.take c := by
  have := congrArg (List.take c) (cpl_take ps ws).1
  rw [List.take_take, List.take_take, Nat.min_eq_left h] at this
  exact this
theorem cpl_iff {ps ws : List Int} {c : Nat} (h1 : c ≤ ps.length) (h2 : c ≤ ws.length) : ps.take c = ws.take c ↔ c ≤ cpl ps ws := ⟨le_cpl ps ws c h1 h2, take_cpl⟩
theorem Dq_cpl {ps ws : List Int} {c : Nat} (d : Dq ps ws c) : c ≤ cpl ps ws := by
  have hc := d.1
  obtain ⟨j, hj, e⟩ := addF_pre ps true (ws.getD c 0)
  have h := d.2
  rw [e] at h
  have hl := congrArg List.length h
  simp at hl
  have hjc : j = c := by omega
  subst hjc
  have h2 := congrArg (List.take j) h
  rw [List.take_take, Nat.min_eq_left (by omega), List.take_append_of_le_length (by simp; omega), List.take_take, Nat.min_self] at h2
  exact le_cpl ps ws j hj (by omega) h2
theorem few_bounds {ps ws m : List Int} (gp : Good ps) (gw : Good ws) (h : fewF ps ws = some m) : ws.length - cpl ps ws ≤ m.length ∧ m.length ≤ ws.length - cpl ps ws + (if cpl ps ws < ps.length then 1 else 0) := by
  have hc := cpl_take ps ws
  rcases fewF_cases h with ⟨rfl, rfl⟩ | ⟨hne, c, d, rfl, hmax⟩
  · have := le_cpl ps ps ps.length (Nat.le_refl _) (Nat.le_refl _) rfl
    constructor <;> simp <;> omega
  · have h1 := Dq_cpl d
    have h2 := d.1
    rw [List.length_drop]
    refine ⟨by omega, ?_⟩
    have key : ∀ c', Dq ps ws c' → c' ≤ c := fun c' d' => by
      by_cases z : c < c'
      · exact absurd d' (hmax c' z)
      · omega
    by_cases z : cpl ps ws < ps.length
    · rw [if_pos z]
      by_cases z0 : cpl ps ws = 0
      · omega
      · have hk : cpl ps ws - 1 < ws.length := by omega
        have hk' : cpl ps ws - 1 < ps.length := by omega
        have e1 : ps.take (cpl ps ws - 1) = ws.take (cpl ps ws - 1) := take_cpl (by omega)
        have e2 : ps[cpl ps ws - 1] = ws[cpl ps ws - 1] := by
          have h3 := congrArg (fun l => l[cpl ps ws - 1]?) hc.1
          simp only [List.getElem?_take] at h3
          rw [if_pos (by omega), if_pos (by omega), List.getElem?_eq_getElem hk', List.getElem?_eq_getElem hk] at h3
          exact Option.some.inj h3
        have d' : Dq ps ws (cpl ps ws - 1) := by
          refine ⟨hk, ?_⟩
          rw [getD_at hk]
          have h4 := good_add gw hk (ps.drop (cpl ps ws - 1))
          rw [← e1, List.take_append_drop] at h4
          rw [h4, List.drop_eq_getElem_cons hk', e1, take_succ' hk, e2]
          simp [addF, trig_self]
        have := key _ d'
        omega
    · rw [if_neg z]
      have z2 : cpl ps ws = ps.length := by omega
      have e1 : ps = ws.take ps.length := by
        have h3 := hc.1
        rw [z2, List.take_length] at h3
        exact h3
      have hlt : ps.length < ws.length := by
        by_cases z3 : ps.length = ws.length
        · rw [z3, List.take_length] at e1
          exact absurd e1 hne
        · omega
      have d' : Dq ps ws ps.length := by
        refine ⟨hlt, ?_⟩
        rw [getD_at hlt]
        have h4 := good_step gw hlt
        rw [← e1] at h4
        exact h4
      have := key _ d'
      omega
theorem good_first {ws : List Int} (g : Good ws) : ∃ a r, ws = a :: r ∧ a ≤ 0 ∧ ∀ x ∈ ws, a ≤ x := by
  cases hws : ws with
  | nil => exact absurd (by rw [hws]; rfl) g.1
  | cons a r =>
    refine ⟨a, r, rfl, ?_, ?_⟩
    · have h1 := memV_at g.2 (k := ws.length - 1) (by rw [List.length_reverse]; rw [hws]; simp)
      have e2 : ws.reverse.drop (ws.length - 1 + 1) = [] := by rw [List.drop_eq_nil_iff]; simp; omega
      rw [e2] at h1
      have e3 : ws.reverse[ws.length - 1]'(by rw [List.length_reverse]; rw [hws]; simp) = a := by
        rw [List.getElem_reverse]; simp [hws]
      rw [e3] at h1
      simpa [isNextR] using h1.2
    · intro x hx
      rw [← hws] at hx
      obtain ⟨k, hk, rfl⟩ := List.getElem_of_mem hx
      by_cases z : k = 0
      · subst z; simp [hws]
      · have h4 := good_add g hk []
        rw [List.append_nil] at h4
        by_cases t : trig true a ws[k] = true
        · exfalso
          have e5 : ws.take k = a :: r.take (k - 1) := by
            rw [hws]
            obtain ⟨k', rfl⟩ : ∃ k', k = k' + 1 := ⟨k - 1, by omega⟩
            simp
          rw [e5] at h4
          simp [addF, t] at h4
        · simp [trig] at t
          omega
theorem few_none {ps ws : List Int} (gp : Good ps) (gw : Good ws) : fewF ps ws = none ↔ ps.getD 0 0 < ws.getD 0 0 := by
  obtain ⟨a, r, rfl, ha0, ha⟩ := good_first gp
  obtain ⟨b, t, rfl, hb0, hb⟩ := good_first gw
  show _ ↔ a < b
  constructor
  · intro h
    by_cases z : a < b
    · exact z
    · exfalso
      have d : Dq (a :: r) (b :: t) 0 := ⟨by simp, by simp [addF, trig]; omega⟩
      obtain ⟨m, h1, _⟩ := fewF_le d
      rw [h] at h1; cases h1
  · intro z
    cases h : fewF (a :: r) (b :: t) with
    | none => rfl
    | some m =>
      exfalso
      rcases fewF_cases h with ⟨e, _⟩ | ⟨_, c, d, _, _⟩
      · simp at e; omega
      · have hc := d.1
        have h2 := d.2
        rw [getD_at hc] at h2
        have hx := hb _ (List.getElem_mem hc)
        have nt : ¬ trig true a (b :: t)[c] = true := by simp only [trig, if_true, decide_eq_true_eq]; omega
        rw [show addF true (a :: r) (b :: t)[c] = a :: addF false r (b :: t)[c] by simp [addF, nt]] at h2
        simp at h2
        omega
theorem good_rest : Good [0] := memOk_rest
/-- from rest, as many moves as the row has -/
theorem few_rest {ws m : List Int} (g : Good ws) (h : fewF [0] ws = some m) : m.length = (rowOf ws.reverse).length := by
  have hb := few_bounds good_rest g h
  have hl := few_len h
  obtain ⟨b, t, rfl, hb0, _⟩ := good_first g
  have e : (rowOf (b :: t).reverse).length = (b :: t).length - (if b = 0 then 1 else 0) := by
    unfold rowOf
    rw [List.reverse_reverse]
    by_cases z : b = 0 <;> simp [z]
  rw [e]
  by_cases z : b = 0
  · subst z
    have : cpl [0] (0 :: t) = 1 := by simp [cpl]
    rw [this] at hb
    simp at hb ⊢
    omega
  · have : cpl [0] (b :: t) = 0 := by simp [cpl]; omega
    rw [this] at hb
    simp [z] at hb hl ⊢
    omega
theorem goes_follow : ∀ (m rs : List Int), MemOk rs → (∀ n ∈ m, -1000000 ≤ n ∧ n ≤ 1000000) → (followR rs m).1.reverse = goesF rs.reverse m
  | [], rs, _, _ => rfl
  | p :: m, rs, ok, h => by
    have hp := h p (by simp)
    have ok2 : MemOk (movedR rs p).1 := ⟨moved_ne rs p, memV_moved ok.2 ok.1 hp⟩
    show (followR (movedR rs p).1 m).1.reverse = goesF (addF true rs.reverse p) m
    rw [goes_follow m _ ok2 (fun n hn => h n (List.mem_cons_of_mem _ hn)), moved_addF ok.2 ok.1 hp]
theorem good_bound {ws : List Int} (g : Good ws) : ∀ x ∈ ws, -1000000 ≤ x ∧ x ≤ 1000000 := by
  intro x hx
  obtain ⟨k, hk, rfl⟩ := List.getElem_of_mem (List.mem_reverse.mpr hx)
  exact (memV_at g.2 hk).1
theorem few_bound {ps ws m : List Int} (g : Good ws) (h : fewF ps ws = some m) : ∀ x ∈ m, -1000000 ≤ x ∧ x ≤ 1000000 := by
  intro x hx
  rcases fewF_cases h with ⟨_, rfl⟩ | ⟨_, c, d, rfl, _⟩
  · simp at hx
  · exact good_bound g x (List.mem_of_mem_drop hx)
/-- the memory after the moves that are found is the goal -/
theorem few_follow {rs gs m : List Int} (ok : MemOk rs) (okg : MemOk gs) (h : fewF rs.reverse gs.reverse = some m) : (followR rs m).1 = gs := by
  have g : Good gs.reverse := by unfold Good; simpa using okg
  apply rev_inj
  rw [goes_follow m rs ok (few_bound g h)]
  exact few_leads g h
theorem few_one {rs : List Int} {a p : Int} {r : List Int} (ok : MemOk rs) (hp : -1000000 ≤ p ∧ p ≤ 1000000) (h : rs = a :: r) (hne : a ≠ p) : fewF rs.reverse (movedR rs p).1.reverse = some [p] := by
  rw [moved_addF ok.2 ok.1 hp]
  have d := Dq_last rs.reverse p
  obtain ⟨j, hj, e⟩ := addF_pre rs.reverse true p
  have hl : (addF true rs.reverse p).length = j + 1 := by rw [e]; simp; simp at hj; omega
  have hn : rs.reverse ≠ addF true rs.reverse p := fun z => by
    rw [e, h] at z
    have z2 := congrArg List.reverse z
    simp at z2
    exact hne z2.1
  unfold fewF
  rw [if_neg hn, hl]
  unfold goF
  rw [hl] at d
  rw [if_pos (by simpa using d.2)]
  congr 1
  rw [e]
  rw [List.length_reverse] at hj
  rw [List.drop_append_of_le_length (by simp; omega), List.drop_of_length_le (by simp; omega)]
  rfl
/-- a memory that never went below 0 -/
def Zer (rs : List Int) : Prop := MemOk rs ∧ rs.reverse.getD 0 0 = 0
theorem Zer.good {rs : List Int} (z : Zer rs) : Good rs.reverse := by unfold Good; simpa using z.1
theorem zer_few {rs gs : List Int} (z : Zer rs) (y : Zer gs) : ∃ m, fewF rs.reverse gs.reverse = some m := by
  cases h : fewF rs.reverse gs.reverse with
  | some m => exact ⟨m, rfl⟩
  | none =>
    have := (few_none z.good y.good).mp h
    rw [z.2, y.2] at this
    omega
def fl (rs gs : List Int) : Nat := ((fewF rs.reverse gs.reverse).getD []).length
theorem fl_eq {rs gs m : List Int} (h : fewF rs.reverse gs.reverse = some m) : m.length = fl rs gs := by unfold fl; rw [h]; rfl
theorem fl_tri {rs gs ts : List Int} (z : Zer rs) (y : Zer gs) (x : Zer ts) : fl rs ts ≤ fl rs gs + fl gs ts := by
  obtain ⟨m1, h1⟩ := zer_few z y
  obtain ⟨m2, h2⟩ := zer_few y x
  obtain ⟨m, h3, h4⟩ := few_tri y.good x.good h1 h2
  rw [← fl_eq h1, ← fl_eq h2, ← fl_eq h3]
  exact h4
theorem fl_len {rs gs : List Int} (z : Zer rs) (y : Zer gs) : fl rs gs ≤ gs.length := by
  obtain ⟨m1, h1⟩ := zer_few z y
  rw [← fl_eq h1]
  simpa using few_len h1
theorem fl_zero {rs gs : List Int} (z : Zer rs) (y : Zer gs) : fl rs gs = 0 ↔ rs = gs := by
  obtain ⟨m1, h1⟩ := zer_few z y
  rw [← fl_eq h1]
  constructor
  · intro h
    have : m1 = [] := List.eq_nil_of_length_eq_zero h
    rw [this] at h1
    exact rev_inj (few_nil.mp h1)
  · intro h
    rw [few_nil.mpr (by rw [h])] at h1
    cases h1
    rfl
theorem zer_row {row : List Int} (h : ∀ x ∈ row, 0 ≤ x ∧ x ≤ 1000000) : Zer (memR row) := by
  have hb : ∀ x ∈ row, -1000000 ≤ x ∧ x ≤ 1000000 := fun x hx => by have := h x hx; omega
  refine ⟨memR_ok hb, ?_⟩
  obtain ⟨a, r, u, v, e, hw, _, ht, _⟩ := (memR_LM row.length rfl hb).head
  rw [e]
  show a = 0
  have h1 := ht 0 (by simp)
  have h2 : a ∈ 0 :: row := by rw [hw]; simp
  simp [trig] at h1
  rcases List.mem_cons.mp h2 with h2 | h2
  · exact h2
  · have := h a h2; omega
theorem zer_rest {rs : List Int} (z : Zer rs) : fewF rs.reverse [0] = some [] ∨ fewF rs.reverse [0] = some [0] := by
  by_cases c : rs.reverse = [0]
  · exact .inl (few_nil.mpr c)
  · right
    obtain ⟨a, r, e, _, _⟩ := good_first z.good
    have ha := z.2
    rw [e] at ha c ⊢
    have : a = 0 := ha
    subst this
    unfold fewF
    rw [if_neg c]
    simp [goF, addF, trig]
theorem zer_below {rs : List Int} (z : Zer rs) : fewF [-1] rs.reverse = none := by
  refine (few_none (by simp [Good, MemOk, MemV, isNextR]) z.good).mpr ?_
  rw [z.2]
  decide
end Mt

/-! plain mathematics: arms, curves, ends -/
namespace Mt
/-- max(0, x) -/
def pos (x : Int) : Int := if 0 < x then x else 0
def curveA (arms : List (Int × Int)) (h : Int) : Int := (arms.map fun a => a.2 * pos (h - a.1)).sum
def pullA (arms : List (Int × Int)) : Int := (arms.map fun a => a.2).sum
/-- the sum over the swings, places from the first on -/
def swings (arms : List (Int × Int)) : Int → List Int → Int
  | sg, a :: b :: r => sg * curveA arms (iabs (b - a)) + swings arms (0 - sg) (b :: r)
  | _, _ => 0
def endA (arms : List (Int × Int)) (ps : List Int) : Int := ps.getD 0 0 * pullA arms + swings arms 1 ps
/-- places that swing, each swing less than the one before -/
def Zig : Bool → List Int → Prop
  | up, a :: b :: c :: r => (if up then a < c ∧ c < b else b < c ∧ c < a) ∧ Zig (!up) (b :: c :: r)
  | up, [a, b] => if up then a < b else b < a
  | _, _ => True
theorem Zig.two {up : Bool} {a b : Int} : ∀ {r : List Int}, Zig up (a :: b :: r) → if up then a < b else b < a
  | [], h => h
  | c :: r, h => by
    have := h.1
    cases up <;> simp at this ⊢ <;> omega
theorem Zig.tail {up : Bool} {a b : Int} : ∀ {r : List Int}, Zig up (a :: b :: r) → Zig (!up) (b :: r)
  | [], _ => trivial
  | _ :: _, h => h.2
theorem Zig.snoc : ∀ {l : List Int} {up : Bool} {x y z : Int}, Zig up (l ++ [x, y]) → (min x y < z ∧ z < max x y) → Zig up (l ++ [x, y, z])
  | [], up, x, y, z, h, hz => by
    have h' : if up then x < y else y < x := h
    refine ⟨?_, ?_⟩
    · cases up <;> simp at h' ⊢ <;> omega
    · show if !up then y < z else z < y
      cases up <;> simp at h' ⊢ <;> omega
  | [a], up, x, y, z, h, hz => by
    obtain ⟨h1, h2⟩ := h
    exact ⟨h1, Zig.snoc (l := []) h2 hz⟩
  | a :: b :: l, up, x, y, z, h, hz => by
    cases l with
    | nil =>
      obtain ⟨h1, h2⟩ := h
      exact ⟨h1, Zig.snoc (l := [b]) h2 hz⟩
    | cons c l =>
      obtain ⟨h1, h2⟩ := h
      exact ⟨h1, Zig.snoc (l := b :: c :: l) h2 hz⟩
theorem zig_memV : ∀ {rs : List Int}, MemV rs → Zig true rs.reverse
  | [], _ => trivial
  | [a], _ => trivial
  | [b, a], h => by
    have := (memV_alt h).1 rfl
    show if true = true then a < b else b < a
    rw [if_pos rfl]; exact this
  | z :: y :: x :: r, h => by
    have ih := zig_memV h.2.2
    have hz := h.2.1
    simp only [isNextR, Bool.and_eq_true, decide_eq_true_eq] at hz
    rw [List.reverse_cons, List.reverse_cons] at ih
    rw [List.reverse_cons, List.reverse_cons, List.reverse_cons]
    simp only [List.append_assoc, List.singleton_append] at ih ⊢
    exact Zig.snoc ih (by omega)
theorem zig_good {ps : List Int} (g : Good ps) : Zig true ps := by
  have := zig_memV g.2
  rwa [List.reverse_reverse] at this
/-- the swings of one rod -/
def Tr (s : Int) : List Int → Int
  | a :: b :: r => pos (iabs (b - a) - s) - Tr s (b :: r)
  | _ => 0
theorem curve_rod (s h : Int) : curveA [(s, 1)] h = pos (h - s) := by simp [curveA]
theorem swings_rod (s : Int) : ∀ (l : List Int) (sg : Int), swings [(s, 1)] sg l = sg * Tr s l
  | [], sg => by simp [swings, Tr]
  | [a], sg => by simp [swings, Tr]
  | a :: b :: r, sg => by
    show sg * curveA [(s, 1)] (iabs (b - a)) + swings [(s, 1)] (0 - sg) (b :: r) = sg * (pos (iabs (b - a) - s) - Tr s (b :: r))
    rw [swings_rod s (b :: r) (0 - sg), curve_rod, Int.mul_sub, Int.sub_mul, Int.zero_mul]
    omega
theorem end_rod (s : Int) (ps : List Int) : endA [(s, 1)] ps = ps.getD 0 0 + Tr s ps := by
  unfold endA
  rw [swings_rod]
  simp [pullA]
theorem iabs_pos {x : Int} : 0 ≤ iabs x := by unfold iabs; split <;> omega
/-- the first swing bounds it; one more slack takes 0 or 1 away -/
theorem Tr_bound (s : Int) : ∀ {r : List Int} {a b : Int} {up : Bool}, Zig up (a :: b :: r) → (0 ≤ Tr s (a :: b :: r) ∧ Tr s (a :: b :: r) ≤ pos (iabs (b - a) - s)) ∧
    (0 ≤ Tr s (a :: b :: r) - Tr (s + 1) (a :: b :: r) ∧ Tr s (a :: b :: r) - Tr (s + 1) (a :: b :: r) ≤ (if s < iabs (b - a) then 1 else 0))
  | [], a, b, up, h => by
    simp only [Tr, pos]
    constructor <;> constructor <;> (repeat' split) <;> omega
  | c :: r, a, b, up, h => by
    have ih := Tr_bound s h.2
    have h1 := h.1
    have e : ∀ s, Tr s (a :: b :: c :: r) = pos (iabs (b - a) - s) - Tr s (b :: c :: r) := fun _ => rfl
    rw [e s, e (s + 1)]
    have hh : iabs (c - b) < iabs (b - a) := by
      unfold iabs
      cases up <;> simp at h1 <;> (repeat' split) <;> omega
    obtain ⟨⟨i1, i2⟩, i3, i4⟩ := ih
    simp only [pos] at i2 ⊢
    constructor <;> constructor <;> (repeat' split at *) <;> omega
theorem Tr_zero {s : Int} : ∀ {r : List Int} {a b : Int} {up : Bool}, Zig up (a :: b :: r) → iabs (b - a) ≤ s → Tr s (a :: b :: r) = 0 := by
  intro r a b up h hs
  have := (Tr_bound s h).1
  simp only [pos] at this
  split at this <;> omega
theorem Tr_last : ∀ {l : List Int} {a : Int} {up : Bool}, Zig up (a :: l) → a + (if up then 1 else -1) * Tr 0 (a :: l) = (a :: l).getLast (by simp)
  | [], a, up, _ => by simp [Tr]
  | b :: r, a, up, h => by
    have ih := Tr_last h.tail
    have h2 := h.two
    rw [List.getLast_cons (by simp), ← ih]
    show a + (if up then 1 else -1) * (pos (iabs (b - a) - 0) - Tr 0 (b :: r)) = _
    cases up
    · simp at h2 ⊢
      simp only [pos, iabs]
      (repeat' split) <;> omega
    · simp at h2 ⊢
      simp only [pos, iabs]
      (repeat' split) <;> omega
theorem Tr_top : ∀ {r : List Int} {a b : Int} {up : Bool}, Zig up (a :: b :: r) → Tr (iabs (b - a) - 1) (a :: b :: r) = 1
  | [], a, b, up, h => by
    show pos (iabs (b - a) - (iabs (b - a) - 1)) - 0 = 1
    simp only [pos]
    split <;> omega
  | c :: r, a, b, up, h => by
    have h1 := h.1
    have hh : iabs (c - b) < iabs (b - a) := by
      unfold iabs
      cases up <;> simp at h1 <;> (repeat' split) <;> omega
    have hz := Tr_zero (s := iabs (b - a) - 1) h.2 (by omega)
    show pos (iabs (b - a) - (iabs (b - a) - 1)) - Tr (iabs (b - a) - 1) (b :: c :: r) = 1
    rw [hz]
    simp only [pos]
    split <;> omega
theorem Zig.pos {up : Bool} {a b : Int} {r : List Int} (h : Zig up (a :: b :: r)) : 1 ≤ iabs (b - a) := by
  have := h.two
  unfold iabs
  cases up <;> simp at this <;> split <;> omega
theorem Tr_inj (F : Int) : ∀ {l m : List Int} {a : Int} {up : Bool}, Zig up (a :: l) → Zig up (a :: m) → (∀ x ∈ a :: l, -F ≤ x ∧ x ≤ F) → (∀ x ∈ a :: m, -F ≤ x ∧ x ≤ F) → (∀ s, 0 ≤ s → s ≤ 2 * F → Tr s (a :: l) = Tr s (a :: m)) → l = m
  | [], [], _, _, _, _, _, _, _ => rfl
  | [], b :: r, a, up, h, h', hb, hb', he => by
    exfalso
    have hp := h'.pos
    have x1 := hb' a (by simp)
    have x2 := hb' b (by simp)
    have := he (iabs (b - a) - 1) (by omega) (by unfold iabs; split <;> omega)
    rw [Tr_top h'] at this
    simp [Tr] at this
  | b :: r, [], a, up, h, h', hb, hb', he => by
    exfalso
    have hp := h.pos
    have x1 := hb a (by simp)
    have x2 := hb b (by simp)
    have := he (iabs (b - a) - 1) (by omega) (by unfold iabs; split <;> omega)
    rw [Tr_top h] at this
    simp [Tr] at this
  | b :: r, c :: t, a, up, h, h', hb, hb', he => by
    have hp := h.pos
    have hp' := h'.pos
    have x1 := hb a (by simp)
    have x2 := hb b (by simp)
    have x3 := hb' c (by simp)
    have hbd : iabs (b - a) ≤ 2 * F := by unfold iabs; split <;> omega
    have hcd : iabs (c - a) ≤ 2 * F := by unfold iabs; split <;> omega
    have hbc : b = c := by
      have key : iabs (b - a) = iabs (c - a) := by
        by_cases z1 : iabs (c - a) < iabs (b - a)
        · have := he (iabs (b - a) - 1) (by omega) (by omega)
          rw [Tr_top h, Tr_zero h' (by omega)] at this
          omega
        · by_cases z2 : iabs (b - a) < iabs (c - a)
          · have := he (iabs (c - a) - 1) (by omega) (by omega)
            rw [Tr_top h', Tr_zero h (by omega)] at this
            omega
          · omega
      have t1 := h.two
      have t2 := h'.two
      unfold iabs at key
      cases up <;> simp at t1 t2 <;> (repeat' split at key) <;> omega
    subst hbc
    have := Tr_inj F h.tail h'.tail (fun x hx => hb x (List.mem_cons_of_mem _ hx)) (fun x hx => hb' x (List.mem_cons_of_mem _ hx)) fun s s0 s1 => by
      have e := he s s0 s1
      have e1 : Tr s (a :: b :: r) = pos (iabs (b - a) - s) - Tr s (b :: r) := rfl
      have e2 : Tr s (a :: b :: t) = pos (iabs (b - a) - s) - Tr s (b :: t) := rfl
      omega
    rw [this]
/-- the end of the rod with slack s at a memory (last place first) -/
def rodE (rs : List Int) (s : Int) : Int := endA [(s, 1)] rs.reverse
theorem rod_facts {rs : List Int} {F : Int} (ok : MemOk rs) (hb : ∀ x ∈ rs, -F ≤ x ∧ x ≤ F) : ∃ p0 r, rs.reverse = p0 :: r ∧ (∀ s, 0 ≤ s → 0 ≤ rodE rs s - rodE rs (s + 1) ∧ rodE rs s - rodE rs (s + 1) ≤ 1) ∧
    (∀ s, 0 ≤ s → p0 ≤ rodE rs s ∧ ∃ x ∈ rs, rodE rs s ≤ x) ∧ rodE rs (2 * F + 1) = p0 ∧ ∀ a t, rs = a :: t → rodE rs 0 = a := by
  have g : Good rs.reverse := by unfold Good; simpa using ok
  have z := zig_good g
  cases h : rs.reverse with
  | nil => exact absurd (by simpa using h) ok.1
  | cons p0 r =>
    have hb' : ∀ x ∈ p0 :: r, -F ≤ x ∧ x ≤ F := fun x hx => hb x (by rw [← List.mem_reverse, h]; exact hx)
    have hm : ∀ x ∈ p0 :: r, x ∈ rs := fun x hx => by rw [← List.mem_reverse, h]; exact hx
    have e : ∀ s, rodE rs s = p0 + Tr s (p0 :: r) := fun s => by unfold rodE; rw [end_rod, h]; rfl
    rw [h] at z
    refine ⟨p0, r, rfl, ?_, ?_, ?_, ?_⟩
    · intro s hs
      rw [e, e]
      cases r with
      | nil => simp [Tr]
      | cons b r =>
        have := (Tr_bound s z).2
        split at this <;> omega
    · intro s hs
      rw [e]
      cases r with
      | nil => exact ⟨by simp [Tr], p0, hm p0 (by simp), by simp [Tr]⟩
      | cons b r =>
        have h1 := (Tr_bound s z).1
        have h2 := z.two
        simp at h2
        refine ⟨by omega, b, hm b (by simp), ?_⟩
        simp only [pos, iabs] at h1
        (repeat' split at h1) <;> omega
    · rw [e]
      cases r with
      | nil => simp [Tr]
      | cons b r =>
        have x1 := hb' p0 (by simp)
        have x2 := hb' b (by simp)
        rw [Tr_zero z (by unfold iabs; split <;> omega)]
        omega
    · intro a t ht
      rw [e]
      have h3 := Tr_last z
      simp only [if_true, Int.one_mul] at h3
      rw [h3]
      have h4 : (p0 :: r).getLast? = some a := by rw [← h, List.getLast?_reverse, ht]; rfl
      rw [List.getLast?_eq_some_getLast (by simp)] at h4
      exact Option.some.inj h4
theorem rod_inj {rs gs : List Int} {F : Int} (ok : MemOk rs) (okg : MemOk gs) (hb : ∀ x ∈ rs, -F ≤ x ∧ x ≤ F) (hg : ∀ x ∈ gs, -F ≤ x ∧ x ≤ F) (h : ∀ s, 0 ≤ s → s ≤ 2 * F + 1 → rodE rs s = rodE gs s) : rs = gs := by
  have g : Good rs.reverse := by unfold Good; simpa using ok
  have g' : Good gs.reverse := by unfold Good; simpa using okg
  have z := zig_good g
  have z' := zig_good g'
  obtain ⟨p0, r, h1, _, _, h2, _⟩ := rod_facts ok hb
  obtain ⟨q0, t, h3, _, _, h4, _⟩ := rod_facts okg hg
  have hF : 0 ≤ F := by
    have := hb p0 (by rw [← List.mem_reverse, h1]; simp)
    omega
  have e0 := h (2 * F + 1) (by omega) (by omega)
  rw [h2, h4] at e0
  subst e0
  rw [h1] at z
  rw [h3] at z'
  have hb1 : ∀ x ∈ p0 :: r, -F ≤ x ∧ x ≤ F := fun x hx => hb x (by rw [← List.mem_reverse, h1]; exact hx)
  have hb2 : ∀ x ∈ p0 :: t, -F ≤ x ∧ x ≤ F := fun x hx => hg x (by rw [← List.mem_reverse, h3]; exact hx)
  have := Tr_inj F z z' hb1 hb2 fun s s0 s1 => by
    have e := h s s0 (by omega)
    unfold rodE at e
    rw [end_rod, end_rod, h1, h3] at e
    have e' : p0 + Tr s (p0 :: r) = p0 + Tr s (p0 :: t) := e
    omega
  subst this
  exact rev_inj (h1.trans h3.symm)
theorem follow_mem : ∀ (row rs : List Int) (x : Int), rs ≠ [] → x ∈ (followR rs row).1 → x ∈ rs ∨ x ∈ row
  | [], rs, x, _, h => .inl h
  | p :: row, rs, x, hne, h => by
    have h' : x ∈ (followR (movedR rs p).1 row).1 := h
    rcases follow_mem row _ x (moved_ne rs p) h' with h1 | h1
    · obtain ⟨f, g, e1, e2⟩ := moved_suffix (p := p) hne
      rw [e2] at h1
      rcases List.mem_cons.mp h1 with h2 | h2
      · exact .inr (by rw [h2]; simp)
      · exact .inl (by rw [e1]; exact List.mem_append_right _ h2)
    · exact .inr (List.mem_cons_of_mem _ h1)
theorem memR_mem {row : List Int} {x : Int} (h : x ∈ memR row) : x = 0 ∨ x ∈ row := by
  rcases follow_mem row [0] x (by simp) h with h | h
  · exact .inl (by simpa using h)
  · exact .inr h
theorem rowOf_mem {rs : List Int} {x : Int} (h : x ∈ rowOf rs) : x ∈ rs := by
  unfold rowOf at h
  split at h
  · exact List.mem_reverse.mp (List.mem_of_mem_tail h)
  · exact List.mem_reverse.mp h
def endsL (rs : List Int) (n : Nat) : List Int := (List.range n).map fun k : Nat => rodE rs (k : Int)
theorem endsL_len (rs : List Int) (n : Nat) : (endsL rs n).length = n := by simp [endsL]
theorem endsL_succ (rs : List Int) (n : Nat) : endsL rs (n + 1) = endsL rs n ++ [rodE rs n] := by simp [endsL, List.range_succ]
theorem endsL_at {rs : List Int} {n k : Nat} (h : k < n) : (endsL rs n)[k]? = some (rodE rs k) := by simp [endsL, h]
theorem endsL_inj {rs gs : List Int} {F : Int} {n : Nat} (ok : MemOk rs) (okg : MemOk gs) (hb : ∀ x ∈ rs, -F ≤ x ∧ x ≤ F) (hg : ∀ x ∈ gs, -F ≤ x ∧ x ≤ F) (hn : (n : Int) = 2 * F + 2) : rs = gs ↔ endsL rs n = endsL gs n := by
  constructor
  · intro h; rw [h]
  · intro h
    refine rod_inj ok okg hb hg fun s s0 s1 => ?_
    obtain ⟨k, rfl⟩ : ∃ k : Nat, s = k := ⟨s.toNat, by omega⟩
    have h1 := endsL_at (rs := rs) (n := n) (k := k) (by omega)
    have h2 := endsL_at (rs := gs) (n := n) (k := k) (by omega)
    rw [h, h2] at h1
    exact (Option.some.inj h1).symm
end Mt

namespace Sr
open PySem PySem.Spec PyProof.Rows L2
/-! ### what the head says -/
/-- a property's getter: its class, its name, its text -/
structure PropD where
  c : Str
  f : Str
  qual : Str
  params : Arguments
  body : List Stmt
  scope : Scope
def prP (K : PySem.W.Frag) (d : PropD) : Addr := He.ma K (He.ga K d.c) d.f
def prG (K : PySem.W.Frag) (d : PropD) : Addr := match PySem.W.recIn K (prP K d) "property" with
  | some (.ref g :: _) => g
  | _ => 0
def PropD.obs (K : PySem.W.Frag) (d : PropD) : He.FnW := match K.lookup (prG K d) with
  | some ⟨_, _, .func fd, _⟩ => some (fd.name, fd.qualname, fd.params, fd.body, fd.scope, fd.globals, fd.closure, fd.builtins)
  | _ => none
def PropD.val (d : PropD) : He.FnW := some (d.f, d.qual, d.params, .stmts d.body, d.scope, mainGlobals, [], builtinsNs)
def PropD.ok (K : PySem.W.Frag) (d : PropD) : Bool := He.eqO (PySem.W.findIn K (.ref (He.ga K d.c)) d.f) (some (some (.ref (prP K d)))) && (decide (PySem.W.specialIn K (.ref (prP K d)) "__get__" = some (some (.builtin "property.__get__"))) &&
  (decide (PySem.W.takesIn K (.ref (prP K d)) = some true) && ((match PySem.W.recIn K (prP K d) "property" with
    | some (.ref _ :: _) => true
    | _ => false) && (PySem.W.keepIn K (.ref (prG K d)) && (match K.lookup (prG K d) with
    | some ⟨_, _, .func fd, _⟩ => PySem.W.codeIn K fd.code d.qual && He.dflB K fd.defaults []
    | _ => false)))))
theorem PropD.funD {K : PySem.W.Frag} {d : PropD} (e : d.obs K = d.val) (c : d.ok K = true) : PropOf K (He.ga K d.c) d.f (prP K d) (prG K d) ∧ ∃ fd, FunD K d.f d.qual d.params d.body d.scope [] [] (prG K d) fd := by
  obtain ⟨c1, c⟩ := He.ba c
  obtain ⟨c2, c⟩ := He.ba c
  obtain ⟨c3, c⟩ := He.ba c
  obtain ⟨c4, c⟩ := He.ba c
  obtain ⟨c5, c6⟩ := He.ba c
  refine ⟨⟨He.eqO_ok c1, of_decide_eq_true c2, of_decide_eq_true c3, ?_⟩, ?_⟩
  · unfold prG
    cases q : PySem.W.recIn K (prP K d) "property" with
    | none => rw [q] at c4; cases c4
    | some l =>
      rw [q] at c4
      cases l with
      | nil => cases c4
      | cons v r =>
        cases v with
        | ref g => exact ⟨r, rfl⟩
        | _ => cases c4
  · unfold PropD.obs at e
    cases q : K.lookup (prG K d) with
    | none => rw [q] at c6; cases c6
    | some o =>
      obtain ⟨oc, od, dt, osl⟩ := o
      rw [q] at c6 e
      cases dt with
      | func fd =>
        obtain ⟨n1, n2, n3, n4, n5, n6, n7, n8, n9, n10, n11, n12, n13, n14, n15⟩ := fd
        have e2 : (some (n1, n2, n3, n4, n5, n6, n7, n15) : He.FnW) = some (d.f, d.qual, d.params, .stmts d.body, d.scope, mainGlobals, [], builtinsNs) := e
        simp only [Option.some.injEq, Prod.mk.injEq] at e2
        obtain ⟨h1, h2, h3, h4, h5, h6, h7, h8⟩ := e2
        subst h1 h2 h3 h4 h5 h6 h7 h8
        obtain ⟨k1, k2⟩ := He.ba (show (PySem.W.codeIn K n13 d.qual && He.dflB K n8 []) = true from c6)
        exact ⟨_, ⟨oc, od, n8, n9, n10, n11, n12, n13, n14, osl, rfl, q, k1, He.dflB_ok k2, .inl rfl⟩, c5⟩
      | _ => cases c6
structure Say (fa : List He.Fa) (fn : List He.DefD) (gt : List PropD) (ex : PySem.W.Frag → Bool) (K : PySem.W.Frag) (mg : Str → Option Value) : Prop where
  g : ∃ h : Heap, K.In h ∧ h.Ns mainGlobals mg
  c : He.SaysD fa fn K
  p : gt.map (PropD.obs K) = gt.map PropD.val
  m : ((gt.all fun d => d.ok K) && ex K) = true
section
variable {fa : List He.Fa} {fn : List He.DefD} {gt : List PropD} {ex : PySem.W.Frag → Bool} {K : PySem.W.Frag} {mg : Str → Option Value}
theorem Say.prop (S : Say fa fn gt ex K mg) (i : Nat) {d : PropD} (h : gt[i]? = some d := by rfl) : PropOf K (He.ga K d.c) d.f (prP K d) (prG K d) ∧ ∃ fd, FunD K d.f d.qual d.params d.body d.scope [] [] (prG K d) fd := by
  have c1 := (He.ba S.m).1
  have e2 : (gt.map (PropD.obs K))[i]? = (gt.map PropD.val)[i]? := by rw [S.p]
  rw [List.getElem?_map, List.getElem?_map, h] at e2
  exact PropD.funD (Option.some.inj e2) (List.all_eq_true.mp c1 d (List.mem_of_getElem? h))
theorem Say.more (S : Say fa fn gt ex K mg) : ex K = true := (He.ba S.m).2
theorem Say.free (S : Say fa fn gt ex K mg) (i : Nat) {x : Str} (h : fa[i]? = some (.free x) := by rfl) : mg x = none := by
  obtain ⟨h0, X, G⟩ := S.g
  exact He.free_ok X G (S.c.fact i h)
theorem Say.glo (S : Say fa fn gt ex K mg) (i : Nat) {x : Str} (h : fa[i]? = some (.glo x) := by rfl) : mg x = some (.ref (He.ga K x)) := by
  obtain ⟨h0, X, G⟩ := S.g
  exact He.glo_ok X G (S.c.fact i h)
theorem Say.int (S : Say fa fn gt ex K mg) (i : Nat) {x : Str} {n : Int} (h : fa[i]? = some (.int x n) := by rfl) : ∃ t, mg x = some (.int n t) := by
  obtain ⟨h0, X, G⟩ := S.g
  exact He.int_ok X G (S.c.fact i h)
theorem Say.str (S : Say fa fn gt ex K mg) (i : Nat) {x : Str} {z : Str} (h : fa[i]? = some (.str x z) := by rfl) : ∃ t, mg x = some (.str z t) := by
  obtain ⟨h0, X, G⟩ := S.g
  exact He.str_ok X G (S.c.fact i h)
end
/-- the Hook: facts, defs, getters, one more Bool -/
abbrev AlM : Type := He.AlD × List He.FnW × Bool
def obM (n : Nat) (fa : List He.Fa) (fn : List He.DefD) (gt : List PropD) (ex : PySem.W.Frag → Bool) (g : Addr → Option Obj) : AlM :=
  (He.obsD fa fn (He.frG g (He.asD g n)), gt.map (PropD.obs (He.frG g (He.asD g n))), (gt.all fun d => d.ok (He.frG g (He.asD g n))) && ex (He.frG g (He.asD g n)))
def hookM (n : Nat) (fa : List He.Fa) (fn : List He.DefD) (gt : List PropD) (ex : PySem.W.Frag → Bool) : PySem.W.Hook where
  α := AlM
  obs := fun s => obM n fa fn gt ex s.heap.get?
  val := fun _ => (He.valD fn, gt.map PropD.val, true)
  says := fun _ h => ∃ K : PySem.W.Frag, K.In h ∧ He.SaysD fa fn K ∧ gt.map (PropD.obs K) = gt.map PropD.val ∧ ((gt.all fun d => d.ok K) && ex K) = true
  of := fun _ _ e => ⟨_, He.frG_in, congrArg (fun z : AlM => z.1) e, congrArg (fun z : AlM => z.2.1) e, congrArg (fun z : AlM => z.2.2) e⟩
  keeps := fun _ _ _ ⟨K, hK, c⟩ k => ⟨K, PySem.W.Frag.In.keeps hK k, c⟩
theorem obM_eq {n : Nat} {fa : List He.Fa} {fn : List He.DefD} {gt : List PropD} {ex : PySem.W.Frag → Bool} {g : Addr → Option Obj} {s : Shared} (h : ∀ a, g a = s.heap.get? a) : obM n fa fn gt ex g = (hookM n fa fn gt ex).obs s := by
  have e : g = s.heap.get? := funext h
  rw [e] <;> rfl
/-! ### a def by its name -/
structure Fn (P : Program) (w : World) (K : PySem.W.Frag) (mg : Str → Option Value) (base : Heap) (CX : CXT) (k : Nat) (x : Str) (ps : List Str) (sp : Sp) : Prop where
  ex : ∃ (f : Addr) (fd : FuncData), mg x = some (.ref f) ∧ PySem.W.keepIn K (.ref f) = true ∧ Binds K fd ps [] ∧ FnOk P w K mg base CX k f fd ps sp ∧ ∃ oc od osl, K.lookup f = some ⟨oc, od, .func fd, osl⟩
abbrev FnP (K : PySem.W.Frag) (x q : Str) (st : Stmt) (f : Addr) (fd : FuncData) : Prop := FunD K x q (defArgs st) (defBody st) (defScope st) [] [] f fd
section
variable {P : Program} {w : World} {K : PySem.W.Frag} {mg : Str → Option Value} {base : Heap} {CX : CXT} {k : Nat} {x : Str} {ps : List Str} {sp : Sp}
theorem Fn.mono (F : Fn P w K mg base CX k x ps sp) {j : Nat} (h : k ≤ j) : Fn P w K mg base CX j x ps sp := by
  obtain ⟨f, fd, a, b, c, d, e⟩ := F.ex
  exact ⟨f, fd, a, b, c, d.mono h, e⟩
theorem Fn.imp (F : Fn P w K mg base CX k x ps sp) {sp' : Sp} (h : ∀ vs H Q E, sp' vs H Q E → sp vs H Q E) : Fn P w K mg base CX k x ps sp' := by
  obtain ⟨f, fd, a, b, c, d, e⟩ := F.ex
  exact ⟨f, fd, a, b, c, d.imp h, e⟩
end
section
variable {fa : List He.Fa} {fn : List He.DefD} {gt : List PropD} {ex : PySem.W.Frag → Bool} {K : PySem.W.Frag} {mg : Str → Option Value} {P : Program} {w : World} {base : Heap}
theorem _root_.L2.FunD.at_ {x qual : Str} {params : Arguments} {body : List Stmt} {scope : Scope} {dvs : List V} {kws : List (Str × V)} {f : Addr} {fd : FuncData} (F : FunD K x qual params body scope dvs kws f fd) : ∃ oc od osl, K.lookup f = some ⟨oc, od, .func fd, osl⟩ := by
  obtain ⟨oc, od, dV, kV, doc, pm, an, cdv, ct, osl, rfl, lk, _⟩ := F.ex
  exact ⟨oc, od, osl, lk⟩
/-- a def that lets no exception out -/
theorem fn_mk {N ps : List Str} {sp : Sp} {k : Nat} {x : Str} (st : Stmt) (S : Say fa fn gt ex K mg) (i j : Nat) (hd : fn[i]? = some ⟨(x, none), x, x, defArgs st, defBody st, defScope st, [], []⟩) (hg : fa[j]? = some (.glo x)) (SC : FnScope N ps (defScope st))
    (hb : ∀ (kV doc pm : Value) (an : Option Addr) (cdv ct : Value) (us : List Value), us.length = ps.length → bindArgs (PySem.W.fnOf x x (defArgs st) (defBody st) (defScope st) .none kV doc pm an cdv ct) ⟨us, []⟩ = pure (ps.zip us))
    (len : ∀ vs H Q E, sp vs H Q E → vs.length = ps.length)
    (hbody : ∀ (f : Addr) (cdv : Value) (A : Around) (outer : List Env) (s : Shared) (H : Hp) (vs : List V) (Q : VK) (E : XK), Room k (A.deeper (envOfC x (defScope st) s.heap.objs.size f cdv)) → sp vs H Q E →
      ∃ t, PSs (cxOf CX0 P w K mg base N x (defScope st) f cdv A outer s H E).nox (defBody st) t ∧ t { nx := fun _ H' => Q .non H', rt := Q } (start N vs) H) : Fn P w K mg base CX0 (k + 1) x ps sp := by
  obtain ⟨fd, F⟩ := S.c.def_ i hd
  refine ⟨_, fd, S.glo j hg, F.kp, F.bindsN hb, ?_, F.at_⟩
  refine F.ok SC len fun cdv A outer s H vs Q E hr h => ?_
  obtain ⟨t, h1, h2⟩ := hbody _ cdv A outer s H vs Q E hr h
  exact ⟨t, h1.nox, h2⟩
end
section
variable {X : Cx} {CX : CXT} {k : Nat} {ps : List Str} {sp : Sp} {E : XK} {x : Str} {p pos : Pos} {e : Expr} {es : List Expr} {t : TA}
theorem pe_fn (F : Fn X.prog X.w X.K X.mg X.base CX k x ps sp) (hr : Room k X.A) (hx : Passes CX X E) (ha : PA X (e :: es) t) (hg : Gl X x := by rfl) (hdb : (x == ("__debug__" : Str)) = false := by decide)
    (he : starEach (e :: es) X.env = (false, eval e X.env) :: starEach es X.env := by rfl) (hpl : (backTo pos (starEach es X.env)).any (·.1) = false := by rfl) :
    PE X (.Call (.Name x p) (e :: es) [] pos) (tCall sp [] E t) := by
  obtain ⟨f, fd, a, b, c, d, _⟩ := F.ex
  exact pe_call d hr hg a b c .nil hx ha hdb he hpl
theorem pe_gint {i : Int} (h : ∃ t, X.mg x = some (.int i t)) (hg : Gl X x := by rfl) (hd : (x == ("__debug__" : Str)) = false := by decide) : PE X (.Name x pos) (tC (.int i)) := by
  obtain ⟨t, h⟩ := h
  exact pe_glob hg h ⟨t, rfl⟩ hd
theorem pe_gstr {z : Str} (h : ∃ t, X.mg x = some (.str z t)) (hg : Gl X x := by rfl) (hd : (x == ("__debug__" : Str)) = false := by decide) : PE X (.Name x pos) (tC (.str z)) := by
  obtain ⟨t, h⟩ := h
  exact pe_glob hg h ⟨t, rfl⟩ hd
end
def spLaw (K : PySem.W.Frag) : Sp := fun vs H Q _ => ∃ (a : Addr) (ns : List Int), vs = [.ref a] ∧ SqL K H a (ns.map V.int) ∧ ns.length ≤ 63 ∧ ∀ H', Q (.bl true) H'
/-! ### rules over the tracked heap -/
def seqH (H : Hp) (p : Addr) (xs : List V) : Prop := H p = some (.lst xs) ∨ H p = some (.tup xs)
theorem seqH.or {K : PySem.W.Frag} {H : Hp} {p : Addr} {xs : List V} (h : seqH H p xs) : SqL K H p xs ∨ SqT K H p xs := h.elim (fun h => .inl (.of h)) fun h => .inr (.of h)
def rIxU : R2 := fun x y H Q => ∃ p xs i v, x = .ref p ∧ y = .int i ∧ seqH H p xs ∧ atI xs i = some v ∧ Q v H
def rLenU : List V → Hp → VK → Prop := fun vs H Q => ∃ p ys, vs = [.ref p] ∧ seqH H p ys ∧ Q (.int ys.length) H
def rListU : List V → Hp → VK → Prop := fun vs H Q => ∃ p ys, vs = [.ref p] ∧ seqH H p ys ∧ ∀ l, H l = none → Q (.ref l) (upd H l (.lst ys))
def rTupU : List V → Hp → VK → Prop := fun vs H Q => ∃ p ys, vs = [.ref p] ∧ H p = some (.lst ys) ∧ ∀ l, H l = none → Q (.ref l) (upd H l (.tup ys))
def rSlLU : V → Option Int → Option Int → Hp → VK → Prop := fun x lo hi H Q => ∃ a xs, x = .ref a ∧ H a = some (.lst xs) ∧ ∀ p, H p = none → Q (.ref p) (upd H p (.lst (cutV xs lo hi)))
def rSlTU : V → Option Int → Option Int → Hp → VK → Prop := fun x lo hi H Q => ∃ a xs, x = .ref a ∧ H a = some (.tup xs) ∧ ∀ p H', Same H H' → H' p = some (.tup (cutV xs lo hi)) → Q (.ref p) H'
def rCatU : R2 := fun x y H Q => ∃ a b xs ys, x = .ref a ∧ y = .ref b ∧ H a = some (.tup xs) ∧ H b = some (.tup ys) ∧ xs.length + ys.length ≤ sizeLine ∧ ∀ p H', Same H H' → H' p = some (.tup (xs ++ ys)) → Q (.ref p) H'
def rMaxU : List V → Hp → VK → Prop := fun vs H Q => ∃ (a : Addr) (ns : List Int), vs = [V.ref a] ∧ seqH H a (ns.map V.int) ∧ 0 < ns.length ∧ ∀ m, m ∈ ns → (∀ y, y ∈ ns → y ≤ m) → Q (.int m) H
def rMinU : List V → Hp → VK → Prop := fun vs H Q => ∃ (a : Addr) (ns : List Int), vs = [V.ref a] ∧ seqH H a (ns.map V.int) ∧ 0 < ns.length ∧ ∀ m, m ∈ ns → (∀ y, y ∈ ns → m ≤ y) → Q (.int m) H
def tyL (x : V) (H : Hp) : Prop := ∃ p xs, x = .ref p ∧ H p = some (.lst xs)
theorem same_upd {H : Hp} {p : Addr} {o : HO} (h : H p = none) : Same H (upd H p o) := fun b u e => by rw [upd_ne (ne_of_none e h)]; exact e
theorem cutV_whole {xs : List V} {lo hi : Option Int} (h1 : HT.sIx xs.length 0 lo = 0) (h2 : HT.sIx xs.length xs.length hi = xs.length) : cutV xs lo hi = xs := by
  unfold cutV; rw [h1, h2]; simp
section
variable {X : Cx}
theorem ix_u : IxR X rIxU := by
  intro value slice pins s σ H x y v u Q I rx ry h hs
  obtain ⟨p, xs, i, z, rfl, rfl, hq | hq, he, q⟩ := h
  · exact ix_list value slice pins s σ H _ _ v u Q I rx ry ⟨p, xs, i, z, rfl, rfl, .of hq, he, q⟩ hs
  · exact ix_tup value slice pins s σ H _ _ v u Q I rx ry ⟨p, xs, i, z, rfl, rfl, .of hq, he, q⟩ hs
theorem call_len_u : CallR X (.builtin "len") rLenU := by
  intro pins s σ H xs us Q I r h
  obtain ⟨p, ys, rfl, hq, q⟩ := h
  exact call_len_seq pins s σ H _ us Q I r ⟨p, ys, rfl, hq.or, q⟩
theorem call_list_u : CallR X (.type "list") rListU := by
  intro pins s σ H xs us Q I r h
  obtain ⟨p, ys, rfl, hq, q⟩ := h
  exact call_list_of pins s σ H _ us Q I r ⟨p, ys, rfl, hq.or, q⟩
theorem call_tup_u : CallR X (.type "tuple") rTupU := by
  intro pins s σ H xs us Q I r h
  obtain ⟨p, ys, rfl, hq, q⟩ := h
  exact call_tuple_of pins s σ H _ us Q I r ⟨p, ys, rfl, .inl ⟨.of hq, q⟩⟩
theorem sl_lu : SlR X rSlLU := by
  intro pins s σ H x v vl vu lo hi sl Q I rx hs pl pu h
  obtain ⟨a, xs, rfl, hx, q⟩ := h
  exact sl_list pins s σ H _ v vl vu lo hi sl Q I rx hs pl pu ⟨a, xs, rfl, .of hx, q⟩
theorem sl_tu : SlR X rSlTU := by
  intro pins s σ H x v vl vu lo hi sl Q I rx hs pl pu h
  obtain ⟨a, xs, rfl, hx, q⟩ := h
  exact sl_tupA pins s σ H _ v vl vu lo hi sl Q I rx hs pl pu ⟨a, xs, rfl, .of hx, fun hw => q a H (.refl H) (by rw [cutV_whole hw.1 hw.2]; exact hx), fun _ p hp => q p _ (same_upd hp) upd_same⟩
theorem op_catU : OpR X (binaryOp .Add) rCatU := by
  intro pins s σ H x y v u Q I rx ry h
  obtain ⟨a, b, xs, ys, rfl, rfl, ha, hb, hz, q⟩ := h
  exact op_catA pins s σ H _ _ v u Q I rx ry ⟨a, b, xs, ys, rfl, rfl, .of ha, .of hb, hz, fun e => q b H (.refl H) (by rw [e]; exact hb), fun _ e => q a H (.refl H) (by rw [e, List.append_nil]; exact ha), fun _ _ p hp => q p _ (same_upd hp) upd_same⟩
end
/-! ### methods of a tracked list -/
def tBML0 (r : V → List V → Hp → VK → Prop) (to : TE) : TE := fun σ H Q => to σ H fun x H1 => (∃ p xs, x = .ref p ∧ H1 p = some (.lst xs)) ∧ r x [] H1 Q
def tBML (r : V → List V → Hp → VK → Prop) (to : TE) (t : TA) : TE := fun σ H Q => to σ H fun x H1 => (∃ p xs, x = .ref p ∧ H1 p = some (.lst xs)) ∧ t σ H1 fun xs H2 => r x xs H2 Q
section
variable {X : Cx} {o e : Expr} {es : List Expr} {to : TE} {t : TA} {name : Str} {apos cpos : Pos} {id : String} {r : V → List V → Hp → VK → Prop}
theorem tyV_lst {K : PySem.W.Frag} {x : V} {H : Hp} (h : ∃ p xs, x = .ref p ∧ H p = some (.lst xs)) : tyV K "list" x H := by
  obtain ⟨p, xs, rfl, h⟩ := h
  exact .inl ⟨rfl, xs, .of h⟩
theorem pe_bmL0 (slot : Slot "list" name id) (hty : typeOf (.builtin id) = pure (.type "method_descriptor")) (hm : MtR X id r) (ho : PE X o to)
    (hbase : attributeBase o name X.env (eval o X.env) = eval o X.env := by rfl) (hline : (apos.endLine == cpos.line) = true := by rfl) : PE X (.Call (.Attribute o name apos) [] [] cpos) (tBML0 r to) := by
  refine ⟨fun pins s σ H Q I h => ?_⟩
  refine wpAny_Call_method0_late hbase hline (thn (ho.run pins s σ H _ I h) fun v s1 ⟨x, H1, I1, r1, ty, q1⟩ => ?_)
  obtain ⟨h1, h2⟩ := tyV_is I1 r1 (tyV_lst ty)
  exact ⟨"list", id, PySem.F.plainAttrs_list, slot, hty, h1, h2, Calls.callWith_builtin rfl (PySem.evalArgs_none (hm pins s1 σ H1 x [] v [] Q I1 r1 .nil q1))⟩
theorem pe_bmL (slot : Slot "list" name id) (hty : typeOf (.builtin id) = pure (.type "method_descriptor")) (hm : MtR X id r) (ho : PE X o to) (ha : PA X (e :: es) t)
    (hbase : attributeBase o name X.env (eval o X.env) = eval o X.env := by rfl)
    (hfew : ((backTo cpos (starEach (e :: es) X.env)).all (fun x => !x.1) && (backToKw cpos (keywordEach [] X.env)).all (fun x => x.1.isSome)
      && decide ((e :: es).length + ([] : List Keyword).length + (if ([] : List Keyword).isEmpty then 0 else 1) < 30)) = true := by rfl)
    (hline : (apos.endLine == cpos.line) = true := by rfl) (hs : starEach (e :: es) X.env = (false, eval e X.env) :: starEach es X.env := by rfl) (hplain : (backTo cpos (starEach es X.env)).any (·.1) = false := by rfl) :
    PE X (.Call (.Attribute o name apos) (e :: es) [] cpos) (tBML r to t) := by
  refine ⟨fun pins s σ H Q I h => ?_⟩
  refine wpAny_Call_method_late hbase hfew hline rfl (thn (ho.run pins s σ H _ I h) fun v s1 ⟨x, H1, I1, r1, ty, q1⟩ => ?_)
  obtain ⟨h1, h2⟩ := tyV_is I1 r1 (tyV_lst ty)
  refine ⟨"list", id, PySem.F.plainAttrs_list, slot, hty, h1, h2, ?_⟩
  have hA := ha.run cpos pins s1 σ H1 _ I1 q1
  rw [hs] at hA ⊢
  refine Calls.callWith_builtin (by show (false || (backTo cpos (starEach es X.env)).any (·.1)) = false; rw [hplain] <;> rfl) (Calls.evalArgs_plain ?_)
  exact thn hA fun us s2 ⟨vs, H2, I2, r2, q2⟩ => hm pins s2 σ H2 x vs v us Q I2 r1 r2 q2
end
theorem cx_K {CX : CXT} {P : Program} {w : World} {K : PySem.W.Frag} {mg : Str → Option Value} {base : Heap} {N : List Str} {qual : Str} {scope : Scope} {f : Addr} {cd : Value} {A : Around} {outer : List Env} {s : Shared} {H : Hp} {E : XK} :
    (cxOf CX P w K mg base N qual scope f cd A outer s H E).K = K := rfl
/-- a statement, then the others, with what holds between them told -/
def tCut (t u : TS) : TS := fun D σ H => ∃ Mid : L2.St → Hp → Prop, t { D with nx := Mid } σ H ∧ ∀ σ' H', Mid σ' H' → u D σ' H'
theorem pss_cut {X : Cx} {st : Stmt} {rest : List Stmt} {t u : TS} (h1 : PS X st t) (h2 : PSs X rest u) : PSs X (st :: rest) (tCut t u) := by
  refine ⟨fun pins s σ H D I h => ?_⟩
  obtain ⟨Mid, h, hu⟩ := h
  refine wpAny_execs_cons (thn (h1.run pins s σ H { D with nx := Mid } I h) fun f s1 q => ?_)
  cases f with
  | next =>
    obtain ⟨σ', H', I', q⟩ := q
    exact h2.run pins s1 σ' H' D I' (hu σ' H' q)
  | ret v => exact q
  | brk => exact q
  | cont => exact q
/-! ### statements, where they are run -/
section
variable {t u : TS} {te : TE} {g : TG} {D : L2.Ends} {σ : L2.St} {H : Hp} {c : TT} {ta : TA}
theorem tSeq_ap : tSeq t u D σ H = t { D with nx := u D } σ H := rfl
theorem tAsg_ap : tAsg te g D σ H = te σ H fun x H1 => g x σ H1 D.nx := rfl
theorem tRet_ap : tRet te D σ H = te σ H D.rt := rfl
theorem tDrop_ap : tDrop te D σ H = te σ H fun _ H1 => D.nx σ H1 := rfl
theorem tNext_ap : tNext D σ H = D.nx σ H := rfl
theorem tIfS_ap : tIfS c t u D σ H = c σ H fun b H1 => if b = true then t D σ H1 else u D σ H1 := rfl
theorem tPar_ap {i j : Nat} : tPar i j ta D σ H = ta σ H fun vs H1 => ∃ v w, vs = [v, w] ∧ D.nx ((σ.set i (some v)).set j (some w)) H1 := rfl
theorem tPar3_ap {i j l : Nat} : tPar3 i j l ta D σ H = ta σ H fun vs H1 => ∃ u v w, vs = [u, v, w] ∧ D.nx (((σ.set i (some u)).set j (some v)).set l (some w)) H1 := rfl
theorem tAug_ap {i : Nat} {ti : TIp} : tAug i te ti D σ H = ∃ x, σ[i]? = some (some x) ∧ te σ H fun y H1 => ti x y H1 fun z H2 => D.nx (σ.set i (some z)) H2 := rfl
end
theorem atI_map {α β : Type} (f : α → β) (xs : List α) (i : Int) : atI (xs.map f) i = (atI xs i).map f := by
  unfold atI
  rw [List.length_map]
  cases ixN xs.length i with
  | none => rfl
  | some j => simp
theorem atI_neg {α : Type} (xs : List α) (k : Nat) : atI xs (-((k : Int) + 1)) = xs.reverse[k]? := by
  unfold atI ixN
  rw [if_neg (by omega)]
  by_cases h : k < xs.length
  · rw [if_pos (by omega)]
    have e : (-((k : Int) + 1) + (xs.length : Int)).toNat = xs.length - 1 - k := by omega
    rw [e, List.getElem?_reverse h]
    rfl
  · rw [if_neg (by omega)]
    have : xs.reverse[k]? = none := List.getElem?_eq_none_iff.mpr (by rw [List.length_reverse]; omega)
    rw [this]; rfl
theorem atI_m1 {α : Type} (xs : List α) : atI xs (-1) = xs.reverse[0]? := atI_neg xs 0
theorem atI_m2 {α : Type} (xs : List α) : atI xs (-2) = xs.reverse[1]? := atI_neg xs 1
theorem atI_zero {α : Type} (x : α) (xs : List α) : atI (x :: xs) 0 = some x := atI_nat (xs := x :: xs) (j := 0) rfl
theorem atI_one {α : Type} (x y : α) (xs : List α) : atI (x :: y :: xs) 1 = some y := atI_nat (xs := x :: y :: xs) (j := 1) rfl
theorem atI_two {α : Type} (x y z : α) (xs : List α) : atI (x :: y :: z :: xs) 2 = some z := atI_nat (xs := x :: y :: z :: xs) (j := 2) rfl
end Sr

namespace Sr
open PySem PySem.Spec PyProof.Rows L2
/-! ### a conditional expression as a test -/
def tIfT (t u v : TT) : TT := fun σ H Q => t σ H fun c H1 => if c = true then u σ H1 Q else v σ H1 Q
theorem pt_ifExp {X : Cx} {c a b : Expr} {tc ta tb : TT} {pos : Pos} (hc : PT X c tc) (ha : PT X a ta) (hb : PT X b tb) : PT X (.IfExp c a b pos) (tIfT tc ta tb) := by
  refine ⟨fun pins s σ H Q I h => ?_⟩
  refine isTrue_IfExp (thn (hc.run pins s σ H _ I h) fun d s1 ⟨H1, I1, q1⟩ => ?_)
  cases d with
  | true => exact ha.run pins s1 σ H1 Q I1 q1
  | false => exact hb.run pins s1 σ H1 Q I1 q1
/-! ### max, min of a tuple of ints -/
section
variable {prog : Program} {w : World} {A : Around} {E : Value → Shared → Prop} {s : Shared} {l : Addr}
theorem iter_tup {Q : Value → Shared → Prop} {its : Array Value} (hl : s.heap.IsTuple l its)
    (h : ∀ s₂ : Shared, s₂ = { s with heap := s.heap.push { cls := .type "tuple_iterator", data := .fields #[.ref l, .int 0 0] } } →
      (s₂.heap.IsTupleIter s.heap.objs.size l 0 ∧ s₂.heap.IsTuple l its) → (∀ b ∈ [s.heap.objs.size, l], b < s₂.heap.objs.size) → l ≠ s.heap.objs.size → Q (.ref s.heap.objs.size) s₂) :
    wpAny (model prog w) A (pyIter (.ref l)) Q E s := by
  have hlt : l < s.heap.objs.size := by obtain ⟨_, e, _⟩ := hl; exact Heap.lt_size e
  refine wpAny_pyIter_tuple hl (h _ rfl ⟨⟨_, Heap.get?_push_size _ rfl, rfl, rfl⟩, hl.at fun o e => Heap.get?_push_of_some _ e⟩ (fun b hb => ?_) (Nat.ne_of_lt hlt))
  show b < (s.heap.push _).objs.size
  rw [Heap.size_push]
  rcases List.mem_cons.mp hb with rfl | hb
  · exact Nat.lt_succ_self _
  · rcases List.mem_cons.mp hb with rfl | hb
    · exact Nat.lt_succ_of_lt hlt
    · cases hb
theorem old_kept {h' : Heap} (hk : ∀ b o, b ∉ [s.heap.objs.size] → (s.heap.push { cls := .type "tuple_iterator", data := .fields #[.ref l, .int 0 0] }).get? b = some o → h'.get? b = some o) :
    ∀ b o, s.heap.get? b = some o → h'.get? b = some o := fun b o e => by
  refine hk b o (fun hm => ?_) (Heap.get?_push_of_some _ e)
  rcases List.mem_cons.mp hm with e1 | hm
  · exact absurd (e1 ▸ Heap.lt_size e) (Nat.lt_irrefl _)
  · cases hm
theorem max_rawT {its : List Value} {ns : List Int} {Q : Value → Shared → Prop} (hh : A.handled = none) (hl : s.heap.IsTuple l its.toArray) (hi : IntsAre its ns) (hne : 0 < ns.length)
    (h : ∀ h' tk M t', (∀ b o, s.heap.get? b = some o → h'.get? b = some o) → M ∈ ns → (∀ a, a ∈ ns → a ≤ M) → Q (.int M t') { s with heap := h', toks := tk }) : wpAny (model prog w) A (call (.builtin "max") [.ref l]) Q E s := by
  obtain ⟨xs, e⟩ := hi.allInts.items
  have hn : numsOf (intItems xs).toList = ns := by rw [← e]; exact hi.numsOf
  rw [nums_intItems] at hn
  subst hn
  rw [e] at hl
  have hsz : 0 < xs.size := by simpa using hne
  refine call_max_walk (iter_tup hl fun s₂ e st hfp hlI => ?_)
  subst e
  refine ⟨_, _, _, _, _, _, _, rfl, Walks.tuple (A := A.in1) hh _ l hlI (intItems xs), st, hfp, by simpa [intItems] using hsz, CmpOf.ints_gt (numAt xs) (fun _ _ => intItems_at), fun v h' tk hP hk => ?_⟩
  have hP : (intItems xs)[argBest (fun i j => decide (numAt xs i > numAt xs j)) (xs.size - 1)]? = some v := by simpa [intItems] using hP
  have hk := old_kept hk
  obtain ⟨t, rfl⟩ := intItems_at hP
  obtain ⟨h1, h2⟩ := argBest_gt (numAt xs) (xs.size - 1)
  refine h h' tk _ t hk ?_ fun a ha => ?_
  · rw [numAt_eq]; exact PySem.getD_mem (by rw [List.length_map, Array.length_toList]; omega)
  · obtain ⟨j, hj, rfl⟩ := mem_getD ha
    rw [List.length_map, Array.length_toList] at hj
    rw [← numAt_eq]; exact h2 j (by omega)
theorem min_rawT {its : List Value} {ns : List Int} {Q : Value → Shared → Prop} (hh : A.handled = none) (hl : s.heap.IsTuple l its.toArray) (hi : IntsAre its ns) (hne : 0 < ns.length)
    (h : ∀ h' tk M t', (∀ b o, s.heap.get? b = some o → h'.get? b = some o) → M ∈ ns → (∀ a, a ∈ ns → M ≤ a) → Q (.int M t') { s with heap := h', toks := tk }) : wpAny (model prog w) A (call (.builtin "min") [.ref l]) Q E s := by
  obtain ⟨xs, e⟩ := hi.allInts.items
  have hn : numsOf (intItems xs).toList = ns := by rw [← e]; exact hi.numsOf
  rw [nums_intItems] at hn
  subst hn
  rw [e] at hl
  have hsz : 0 < xs.size := by simpa using hne
  refine call_min_walk (iter_tup hl fun s₂ e st hfp hlI => ?_)
  subst e
  refine ⟨_, _, _, _, _, _, _, rfl, Walks.tuple (A := A.in1) hh _ l hlI (intItems xs), st, hfp, by simpa [intItems] using hsz, CmpOf.ints_lt (numAt xs) (fun _ _ => intItems_at), fun v h' tk hP hk => ?_⟩
  have hP : (intItems xs)[argBest (fun i j => decide (numAt xs i < numAt xs j)) (xs.size - 1)]? = some v := by simpa [intItems] using hP
  have hk := old_kept hk
  obtain ⟨t, rfl⟩ := intItems_at hP
  obtain ⟨h1, h2⟩ := argBest_lt (numAt xs) (xs.size - 1)
  refine h h' tk _ t hk ?_ fun a ha => ?_
  · rw [numAt_eq]; exact PySem.getD_mem (by rw [List.length_map, Array.length_toList]; omega)
  · obtain ⟨j, hj, rfl⟩ := mem_getD ha
    rw [List.length_map, Array.length_toList] at hj
    rw [← numAt_eq]; exact h2 j (by omega)
end
section
variable {X : Cx}
theorem cr_maxU (hc : X.calm = true) : CallR X (.builtin "max") rMaxU := by
  intro pins s σ H vs us Q I r h
  obtain ⟨a, ns, rfl, hs | hs, hne, q⟩ := h
  · exact cr_max hc pins s σ H _ us Q I r ⟨a, ns, rfl, .of hs, hne, q⟩
  · obtain ⟨its, rv, hl, _⟩ := I.tuple (SqT.of hs)
    rw [Vals.ref1 r]
    exact max_rawT (I.ok.hd hc) hl rv.ints hne fun h' tk m t' hk h1 h2 => ⟨.int _, H, I.kept hk, ⟨_, rfl⟩, q m h1 h2⟩
theorem cr_minU (hc : X.calm = true) : CallR X (.builtin "min") rMinU := by
  intro pins s σ H vs us Q I r h
  obtain ⟨a, ns, rfl, hs | hs, hne, q⟩ := h
  · exact cr_min hc pins s σ H _ us Q I r ⟨a, ns, rfl, .of hs, hne, q⟩
  · obtain ⟨its, rv, hl, _⟩ := I.tuple (SqT.of hs)
    rw [Vals.ref1 r]
    exact min_rawT (I.ok.hd hc) hl rv.ints hne fun h' tk m t' hk h1 h2 => ⟨.int _, H, I.kept hk, ⟨_, rfl⟩, q m h1 h2⟩
end
/-! ### enumerate of a tuple -/
set_option maxHeartbeats 8000000 in
theorem meets_enum1 {v : Value} {o : Obj} {H : Heap → Prop} (B : Begins v o H) :
    Meets (Builtin.«enumerate.__new__» ⟨[.type "enumerate", v], []⟩) (fun _ R s => H s.heap ∧
      R (.ok (.ret (.ref (s.heap.push o).objs.size))) { s with heap := (s.heap.push o).push { cls := .type "enumerate", data := .fields #[.none, .bool false, .ref s.heap.objs.size, rawInt 0, .none, .none] } }) :=
  .of_wp fun prog w A R s h => by
    obtain ⟨hp, g, d, tk, os⟩ := s; obtain ⟨h1, h⟩ := h
    have hsub := sub_enumerate
    have q1 : ∀ {A' : Around} {E : Value → Shared → Prop} {Q : Value → Shared → Prop}, Q (.ref hp.objs.size) ⟨hp.push o, g, d, tk, os⟩ → wpAny (model prog w) A' (pyIter v) Q E ⟨hp, g, d, tk, os⟩ :=
      fun q => B.iter prog w _ _ ⟨hp, g, d, tk, os⟩ _ h1 q
    wp_walk using q1
    refine wpAny_stack_any fun st => wpAny_pure ?_
    split
    · rename_i c _ _ _ _ _
      cases (c == Value.type "enumerate")
      · wp_walk using q1
        exact ⟨_, rfl, h⟩
      · wp_walk using q1
        exact ⟨_, rfl, h⟩
    · wp_walk using q1
      exact ⟨_, rfl, h⟩
theorem call_enum1 {prog : Program} {w : World} {A : Around} {E : Value → Shared → Prop} {s : Shared} {v : Value} {o : Obj} {H : Heap → Prop} {Q : Value → Shared → Prop} (B : Begins v o H) (h1 : H s.heap)
    (h : ∀ h', IsEnum h' (s.heap.objs.size + 1) s.heap.objs.size 0 .none → h'.get? s.heap.objs.size = some o → h'.objs.size = s.heap.objs.size + 2 →
      (∀ b o, s.heap.get? b = some o → h'.get? b = some o) → Q (.ref (s.heap.objs.size + 1)) { s with heap := h' }) :
    wpAny (model prog w) A (call (.type "enumerate") [v]) Q E s := by
  refine callType_new F.called_enumerate (by decide) (F.typeCall_enumerate_1 _) (F.newCall_enumerate_1 _) (fun obj => F.args_object_init_2 obj _) F.entry_enumerate_new
    (meets_enum1 B) ⟨h1, ?_⟩
  have hz : (s.heap.push o).objs.size = s.heap.objs.size + 1 := Heap.size_push ..
  show _ ∧ _
  rw [hz]
  have he : IsEnum ((s.heap.push o).push { cls := .type "enumerate", data := .fields #[.none, .bool false, .ref s.heap.objs.size, rawInt 0, .none, .none] }) (s.heap.objs.size + 1) s.heap.objs.size 0 .none := by
    have := Heap.get?_push_size (s.heap.push o) (o := { cls := .type "enumerate", data := .fields #[.none, .bool false, .ref s.heap.objs.size, rawInt 0, .none, .none] }) rfl
    rw [hz] at this; exact this
  refine ⟨⟨_, he, rfl⟩, h _ he (Heap.get?_push_of_some _ (Heap.get?_push_size _ B.free)) (by rw [Heap.size_push, hz]) fun b o x => Heap.get?_push_of_some _ (Heap.get?_push_of_some _ x)⟩
theorem enumT_end {prog : Program} {w : World} {A : Around} {E : Value → Shared → Prop} {s : Shared} {e it l : Addr} {i : Nat} {items : Array Value} {old : Value} {Q : Option Value → Shared → Prop} (hh : A.handled = none)
    (he : IsEnum s.heap e it i old) (hit : s.heap.IsTupleIter it l i) (hl : s.heap.IsTuple l items) (hx : items[i]? = none)
    (hQ : ∀ h', Heap.ExtBut it s.heap h' → Q none { s with heap := h' }) : wpAny (model prog w) A (pyNext (.ref e)) Q E s := by
  have hT : s.TypeIs (.ref e) "enumerate" := ⟨_, he, rfl⟩
  unfold pyNext
  refine wpAny_bind (wpAny_attempt (wpAny_callSpecial?_slot (name := Str.ofString "__next__") hT F.slot_enumerate_next
    (wpAny_call_entry F.slot_enumerate_next hT F.entry_enumerate_next ?_ (F.args_enumerate_next_1 _))))
  show wpAny _ _ (field (.ref e) 2 >>= _) _ _ _
  refine wpAny_bind (wpAny_field he rfl (x := .ref it) rfl ?_)
  refine wpAny_bind (wpAny_nextOf_tuple_end hh hit hl hx fun h' x he' hx' => ?_)
  obtain ⟨o, ho, hc⟩ := hx'
  refine wpAny_bind (wpAny_isInstance (T := "StopIteration") (b := true) ⟨o, ho, hc⟩ isSubtype_stop ?_)
  exact wpAny_pure (hQ _ he')
def IteT (K : PySem.W.Frag) (a : Addr) : It :=
  ⟨fun i H => ∃ (xs : List V) (x : V), SqT K H a xs ∧ xs[i]? = some x, fun i H v H' => ∃ T x, v = .ref T ∧ H T = none ∧ H' = upd H T (.tup [.int (i : Nat), x]) ∧ ∀ xs, SqT K H a xs → xs[i]? = some x, fun i H => ∃ xs : List V, SqT K H a xs ∧ xs.length ≤ i⟩
theorem turn_enumT {P : Program} {w : World} {K : PySem.W.Frag} {elts : List Expr} {kk : Nat} {tpos : Pos} (a e it : Addr) :
    Turn P w K (.Tuple elts kk tpos) (IteT K a) [e, it] e (fun i h => (∃ old, IsEnum h e it ((i : Nat) : Int) old) ∧ h.IsTupleIter it a i ∧ e ≠ it) where
  mem := by simp
  obj := fun i h st b hb => by
    obtain ⟨⟨old, he⟩, ⟨o, ho, hc, hd⟩, _⟩ := st
    have e' : b = e ∨ b = it := by simpa using hb
    rcases e' with z | z
    · rw [z]; exact ⟨_, he, fun v q => nomatch q⟩
    · rw [z]; exact ⟨o, ho, fun v q => by rw [hd] at q; cases q⟩
  keep := fun i h h' st k => let ⟨⟨old, he⟩, hi, hne⟩ := st; ⟨⟨old, k e (by simp) _ he⟩, hi.at fun o q => k it (by simp) o q, hne⟩
  item := by
    intro X hP hw hK hc i pins s σ H E I hf st hg
    subst hP hw hK
    obtain ⟨⟨old, he⟩, hit, hne⟩ := st
    obtain ⟨xs, x, hq, hx⟩ := hg
    obtain ⟨its, rv, p, hz⟩ := I.tuple hq
    obtain ⟨u, hu, ru⟩ := rv.get hx
    have hel : e < s.heap.objs.size := Heap.lt_size he
    have hil : it < s.heap.objs.size := by obtain ⟨_, q, _⟩ := hit; exact Heap.lt_size q
    have hai : a ≠ it := fun z => by
      obtain ⟨o1, q1, c1, _⟩ := hit
      obtain ⟨o2, q2, c2, _⟩ := p
      rw [← z, q2] at q1
      cases q1
      rw [c2] at c1
      exact absurd c1 (by decide)
    have hae : e ≠ a := fun z => by
      obtain ⟨o2, q2, c2, _⟩ := p
      have he' : s.heap.get? e = some _ := he
      rw [z, q2] at he'
      cases he'
      have c3 : Value.type "enumerate" = Value.type "tuple" := c2
      exact absurd c3 (by decide)
    have hlt : i < its.toArray.size := by
      have := (List.getElem?_eq_some_iff.mp hu).1
      simpa using this
    refine wpAny_pyNext_enum_itemD (Draws.tuple (A := X.A.in1) (I.ok.hd hc) it a hai its.toArray) he ⟨hit, p⟩ hlt hne (by simp [hne, hae]) fun y h' tk hP ho hst hT hsz hk => ?_
    have ey : y = u := by
      rw [show its.toArray[i]? = its[i]? by simp, hu] at hP
      exact (Option.some.inj hP).symm
    subst ey
    obtain ⟨hit', _⟩ := hst
    refine ⟨_, rfl, wpAny_letOwnedTupleGo_enum (s := { s with heap := h', toks := tk + 1 }) ho fun h'' he' sb => ?_⟩
    have hT2 : h''.get? s.heap.objs.size = some { cls := .type "tuple", data := .seq #[.int i tk, y] } := (sb.2 _ (Nat.ne_of_gt hel)).trans hT
    have new : ObjOk X.prog X.w (upd H s.heap.objs.size (.tup [.int (i : Nat), x])) h'' s.heap.objs.size (.tup [.int (i : Nat), x]) :=
      ⟨by show 2 ≤ sizeLine; decide, [.int i tk, y], .cons ⟨_, rfl⟩ (.cons ru .nil), ⟨_, hT2, rfl, _, rfl⟩⟩
    have I1 : Inv X pins σ (upd H s.heap.objs.size (.tup [.int (i : Nat), x])) { s with heap := h'', toks := tk + 1 } :=
      I.turnedNew (ch := [e, it]) (fun b ob hb q => (sb.2 b (fun z => hb (by simp [z]))).trans (hk b ob (fun z => hb (by simp [z])) (fun z => hb (by simp [z])) q)) hf (Nat.le_refl _) new
    refine ⟨.ref s.heap.objs.size, _, I1, rfl, ⟨_, x, rfl, I.hok.fresh (Nat.le_refl _), rfl, fun ys hy => by rw [I.tuple_inj hy hq]; exact hx⟩, ⟨⟨y, ?_⟩, hit'.at fun o q => (sb.2 it (Ne.symm hne)).trans q, hne⟩, fun b hb => ?_⟩
    · have e1 : ((i + 1 : Nat) : Int) = (i : Int) + 1 := by omega
      rw [e1]; exact he'
    · have hb' : b < s.heap.objs.size := by
        have e' : b = e ∨ b = it := by simpa using hb
        rcases e' with z | z
        · rw [z]; exact hel
        · rw [z]; exact hil
      rw [upd_ne (Nat.ne_of_lt hb')]
      exact (hf b hb).1
  done := by
    intro X hP hw hK hc i pins s σ H E I hf st hg
    subst hP hw hK
    obtain ⟨⟨old, he⟩, hit, hne⟩ := st
    obtain ⟨xs, hq, hx⟩ := hg
    obtain ⟨its, rv, p, hz⟩ := I.tuple hq
    obtain ⟨f0, f1, f2, f3, f4, f5⟩ := hf it (by simp)
    have hl := rv.length
    have hai : a ≠ it := fun z => by
      obtain ⟨o1, q1, c1, _⟩ := hit
      obtain ⟨o2, q2, c2, _⟩ := p
      rw [← z, q2] at q1
      cases q1
      rw [c2] at c1
      exact absurd c1 (by decide)
    exact enumT_end (I.ok.hd hc) he hit p (by simp; omega) fun h' eb => ⟨rfl, I.turned (t' := s.toks) (fun b o hb q => eb b o hb q) f0 f1 f3 f4 f5⟩
  self := fun A i s Q E st h => let ⟨⟨_, he⟩, _⟩ := st; wpAny_pyIter_enum he h
def iEnumT (K : PySem.W.Frag) (ta : TA) : TI := fun σ H R => ta σ H fun vs H1 => ∃ a xs, vs = [.ref a] ∧ SqT K H1 a xs ∧ R (IteT K a) H1
theorem pi_enumT {X : Cx} {e : Expr} {ta : TA} {p pos tpos : Pos} {elts : List Expr} {kk : Nat} (hg : Gl X "enumerate") (hm : X.mg "enumerate" = none) (ha : PA X [e] ta) (hs : starEach [e] X.env = [(false, eval e X.env)] := by rfl) :
    PI X (.Tuple elts kk tpos) (.Call (.Name "enumerate" p) [e] [] pos) (iEnumT X.K ta) := by
  refine ⟨fun pins s σ H R I h => ?_⟩
  refine Call_ (ld_blt I hg hm boot_enumerate (PyProof.Rows.callWith_type1 (thn (ha.run pos pins s σ H _ I h) fun us s1 ⟨vs, H1, I1, r1, q1⟩ => ?_) hs rfl))
  obtain ⟨a, xs, ex, hq, q⟩ := q1
  subst ex
  cases r1 with
  | cons r rr =>
    cases rr
    cases r
    obtain ⟨its, rv, p', hz⟩ := I1.tuple hq
    refine call_enum1 (begins_tuple a its.toArray) p' fun h' he hit hsz hk => wpAny_pyIter_enum he ?_
    have I2 : Inv X pins σ H1 { s1 with heap := h' } := I1.kept (t' := s1.toks) hk
    refine ⟨s1.heap.objs.size + 1, [s1.heap.objs.size + 1, s1.heap.objs.size], _, _, H1, rfl, I2, turn_enumT a (s1.heap.objs.size + 1) s1.heap.objs.size, ⟨⟨.none, he⟩, ⟨_, hit, rfl, rfl⟩, Nat.succ_ne_self _⟩, fun b hb => ?_, q⟩
    have e' : b = s1.heap.objs.size + 1 ∨ b = s1.heap.objs.size := by simpa using hb
    have hle : s1.heap.objs.size ≤ b := by
      rcases e' with z | z
      · rw [z]; exact Nat.le_add_right _ _
      · rw [z]; exact Nat.le_refl _
    exact I1.fpOk hle (I1.hok.fresh hle)
theorem walk_enumT {K : PySem.W.Frag} {a : Addr} {xs : List V} : Walk (IteT K a) xs.length (fun H => SqT K H a xs) (YPair (fun i => some (.int (i : Nat))) (fun i => xs[i]?)) := by
  refine ⟨fun i _ hi q => ⟨xs, xs[i], q, by simp [hi]⟩, fun _ q => ⟨xs, q, Nat.le_refl _⟩, fun i H v H' _ q y => ?_⟩
  obtain ⟨T, x, h1, h2, h3, h4⟩ := y
  exact ⟨T, .int (i : Nat), x, h1, h2, h3, rfl, h4 xs q⟩
end Sr

namespace Sr
open PySem PySem.Spec PyProof.Rows L2
/-! ### kinds of values -/
inductive Kd where
  | int | bl | str | non | lst | tup | dct
  deriving DecidableEq
def Kd.name : Kd → String
  | .int => "int" | .bl => "bool" | .str => "str" | .non => "NoneType" | .lst => "list" | .tup => "tuple" | .dct => "dict"
def kdOf (v : V) (H : Hp) : Option Kd := match v with
  | .int _ => some .int
  | .bl _ => some .bl
  | .str _ => some .str
  | .non => some .non
  | .ref p => (match H p with
    | some (.lst _) => some .lst
    | some (.tup _) => some .tup
    | some (.dK _) => some .dct
    | some (.dT _) => some .dct
    | _ => none)
  | _ => none
theorem kdOf_ok {K : PySem.W.Frag} {v : V} {H : Hp} {k : Kd} (h : kdOf v H = some k) : TyX K H v (.type k.name) := by
  cases v with
  | int i => cases h; exact .base (.int i)
  | bl b => cases h; exact .base (.bl b)
  | str x => cases h; exact .base (.str x)
  | non => cases h; exact .base .non
  | ref p =>
    unfold kdOf at h
    dsimp only at h
    split at h
    · rename_i xs e; cases h; exact .base (.lst e)
    · rename_i xs e; cases h; exact .base (.tup e)
    · rename_i xs e; cases h; exact .base (.dK e)
    · rename_i xs e; cases h; exact .base (.dT e)
    · cases h
  | byt b => cases h
  | flt b => cases h
  | ty n => cases h
/-- isinstance(a k, T) -/
def isK : Kd → Kd → Bool
  | .int, .int => true | .bl, .int => true | .bl, .bl => true | .str, .str => true | .lst, .lst => true | .tup, .tup => true | .dct, .dct => true | .non, .non => true
  | _, _ => false
theorem kitB_isK (k T : Kd) (h : T ≠ .non) : kitB k.name T.name = some (isK k T) := by
  cases k <;> cases T <;> first | (exact absurd rfl h) | decide +kernel
def rIsK (T : Kd) : List V → Hp → VK → Prop := fun xs H Q => ∃ x k, xs = [x, .ty T.name] ∧ kdOf x H = some k ∧ Q (.bl (isK k T)) H
theorem call_isK {X : Cx} (T : Kd) (hT : T ≠ .non) : CallR X (.builtin "isinstance") (rIsK T) := by
  intro pins s σ H xs us Q I r h
  obtain ⟨x, k, rfl, hk, q⟩ := h
  exact call_isi pins s σ H _ us Q I r ⟨x, _, _, _, _, rfl, .ty _, kdOf_ok hk, kit_ty (kitB_isK k T hT), q⟩
theorem kdOf_same {v : V} {H H' : Hp} {k : Kd} (e : Same H H') (h : kdOf v H = some k) : kdOf v H' = some k := by
  cases v with
  | ref p =>
    unfold kdOf at h ⊢
    dsimp only at h ⊢
    split at h
    · rename_i xs q; rw [e _ _ q]; exact h
    · rename_i xs q; rw [e _ _ q]; exact h
    · rename_i xs q; rw [e _ _ q]; exact h
    · rename_i xs q; rw [e _ _ q]; exact h
    · cases h
  | _ => exact h
/-! ### lists by their last items -/
theorem cutV_len0 (xs : List V) (i : Int) : cutV xs none (some i) = xs.take (HT.sIx xs.length xs.length (some i)) := by
  unfold cutV
  have : HT.sIx xs.length 0 none = 0 := rfl
  rw [this]; simp
theorem cutV_m2 (xs : List Int) : cutV (xs.map V.int) none (some (-2)) = ((xs.reverse.drop 2).reverse).map V.int := by
  rw [cutV_len0]
  have e : HT.sIx (xs.map V.int).length (xs.map V.int).length (some (-2)) = xs.length - 2 := by
    unfold HT.sIx
    simp
    omega
  rw [e, ← List.map_take, List.drop_reverse, List.reverse_reverse]
theorem atI_tr1 (rs : List Int) : atI (List.map V.int rs.reverse) (-1) = (rs[0]?).map V.int := by rw [atI_map, atI_m1, List.reverse_reverse]
theorem atI_tr2 (rs : List Int) : atI (List.map V.int rs.reverse) (-2) = (rs[1]?).map V.int := by rw [atI_map, atI_m2, List.reverse_reverse]
theorem cutV_tr2 (rs : List Int) : cutV (List.map V.int rs.reverse) none (some (-2)) = List.map V.int (rs.drop 2).reverse := by rw [cutV_m2, List.reverse_reverse]
theorem scal_int {i j : Int} : scal (.int i) (.int j) = true := rfl
theorem scal_bl {i j : Bool} : scal (.bl i) (.bl j) = true := rfl
theorem scal_str {i j : Str} : scal (.str i) (.str j) = true := rfl
def rPopG : V → List V → Hp → VK → Prop := fun x vs H Q => ∃ l xs y, x = .ref l ∧ vs = [] ∧ H l = some (.lst xs) ∧ xs.getLast? = some y ∧ Q y (upd H l (.lst xs.dropLast))
theorem mt_popG {X : Cx} : MtM X "list.pop" rPopG := by
  intro pins s σ H x vs v us Q I rx rv h
  obtain ⟨l, xs, y, rfl, rfl, hH, hy, q⟩ := h
  exact mt_pop pins s σ H _ _ v us Q I rx rv ⟨l, xs, y, rfl, rfl, hH, by rw [← List.getLast?_eq_getElem?]; exact hy, q⟩
theorem last_rev (a : Int) (r : List Int) : (List.map V.int (a :: r).reverse)[(List.map V.int (a :: r).reverse).length - 1]? = some (V.int a) := by
  simp
theorem dropLast_rev (a : Int) (r : List Int) : (List.map V.int (a :: r).reverse).dropLast = List.map V.int r.reverse := by
  simp
theorem _root_.L2.Same.seqH {H H' : Hp} {p : Addr} {xs : List V} (e : Same H H') (h : Sr.seqH H p xs) : Sr.seqH H' p xs := h.elim (fun h => .inl (e _ _ h)) fun h => .inr (e _ _ h)
theorem _root_.L2.Same.updN {H H' : Hp} {p : Addr} {o : HO} (e : Same H H') (h : H p = none) : Same H (upd H' p o) := fun b u q => by
  rw [upd_ne (ne_of_none q h)]; exact e b u q
theorem _root_.L2.Same.new {H H' : Hp} {p : Addr} {o : HO} (e : Same H H') (h : H' p = none) : Same H (upd H' p o) := e.updN (e.free h)
end Sr
namespace Sr
open PySem PySem.Spec PyProof.Rows L2
/-! ### == of sequences of ints -/
theorem dpAll_ints {K : PySem.W.Frag} {H : Hp} : ∀ ns : List Int, DpAll K H (ns.map V.int) (ns.map PyData.int)
  | [] => .nil
  | n :: r => .cons (.int n) (dpAll_ints r)
theorem canLayAll_ints : ∀ ns : List Int, PyData.canLayAll0 (ns.map PyData.int) = true
  | [] => rfl
  | n :: r => by
    show (PyData.canLay0 (.int n) && PyData.canLayAll0 (r.map PyData.int)) = true
    rw [canLayAll_ints r]; rfl
theorem depthAll_ints : ∀ ns : List Int, PyData.depthAll (ns.map PyData.int) ≤ 1
  | [] => by decide
  | n :: r => by
    have := depthAll_ints r
    simp only [List.map_cons, PyData.depthAll, PyData.depth]
    omega
theorem eqvAll_ints : ∀ ns ms : List Int, PyData.eqvAll (ns.map PyData.int) (ms.map PyData.int) = decide (ns = ms)
  | [], [] => rfl
  | [], _ :: _ => rfl
  | _ :: _, [] => rfl
  | n :: r, m :: q => by
    show (PyData.eqv (.int n) (.int m) && PyData.eqvAll (r.map PyData.int) (q.map PyData.int)) = _
    rw [eqvAll_ints r q]
    show ((n == m) && decide (r = q)) = _
    by_cases h : n = m <;> simp [h]
theorem shaped_tup (ns : List Int) : SeqAt.shaped (.tuple (ns.map PyData.int)) = true := by
  have h := depthAll_ints ns
  have h2 := canLayAll_ints ns
  unfold SeqAt.shaped
  simp only [PyData.canLay0, h2, PyData.depth, Bool.true_and]
  exact decide_eq_true (by omega)
theorem shaped_lst (ns : List Int) : SeqAt.shaped (.list (ns.map PyData.int)) = true := by
  have h := depthAll_ints ns
  have h2 := canLayAll_ints ns
  unfold SeqAt.shaped
  simp only [PyData.canLay0, h2, PyData.depth, Bool.true_and]
  exact decide_eq_true (by omega)
def rEqSq : R2 := fun x y H Q => ∃ a b ns ms, x = .ref a ∧ y = .ref b ∧ ((H a = some (.tup (List.map V.int ns)) ∧ H b = some (.tup (List.map V.int ms))) ∨ (H a = some (.lst (List.map V.int ns)) ∧ H b = some (.lst (List.map V.int ms)))) ∧ Q (.bl (decide (ns = ms))) H
def rNeSq : R2 := fun x y H Q => ∃ a b ns ms, x = .ref a ∧ y = .ref b ∧ ((H a = some (.tup (List.map V.int ns)) ∧ H b = some (.tup (List.map V.int ms))) ∨ (H a = some (.lst (List.map V.int ns)) ∧ H b = some (.lst (List.map V.int ms)))) ∧ Q (.bl (!decide (ns = ms))) H
theorem op_eqSq {X : Cx} (hu : X.A.units + 64 < cLine) : OpR X (compareOp .Eq) rEqSq := by
  intro pins s σ H x y v u Q I rx ry h
  obtain ⟨a, b, ns, ms, rfl, rfl, ⟨ha, hb⟩ | ⟨ha, hb⟩, q⟩ := h
  · exact op_eqD hu pins s σ H _ _ v u Q I rx ry ⟨_, _, .tup (.of ha) (dpAll_ints ns), .tup (.of hb) (dpAll_ints ms), shaped_tup ns, shaped_tup ms, by rw [PyData.eqv, eqvAll_ints]; exact q⟩
  · exact op_eqD hu pins s σ H _ _ v u Q I rx ry ⟨_, _, .lst (.of ha) (dpAll_ints ns), .lst (.of hb) (dpAll_ints ms), shaped_lst ns, shaped_lst ms, by rw [PyData.eqv, eqvAll_ints]; exact q⟩
theorem op_neSq {X : Cx} (hu : X.A.units + 64 < cLine) : OpR X (compareOp .NotEq) rNeSq := by
  intro pins s σ H x y v u Q I rx ry h
  obtain ⟨a, b, ns, ms, rfl, rfl, ⟨ha, hb⟩ | ⟨ha, hb⟩, q⟩ := h
  · exact op_neD hu pins s σ H _ _ v u Q I rx ry ⟨_, _, .tup (.of ha) (dpAll_ints ns), .tup (.of hb) (dpAll_ints ms), shaped_tup ns, shaped_tup ms, by rw [PyData.eqv, eqvAll_ints]; exact q⟩
  · exact op_neD hu pins s σ H _ _ v u Q I rx ry ⟨_, _, .lst (.of ha) (dpAll_ints ns), .lst (.of hb) (dpAll_ints ms), shaped_lst ns, shaped_lst ms, by rw [PyData.eqv, eqvAll_ints]; exact q⟩
end Sr

namespace Sr
open PySem PySem.Spec PyProof.Rows L2
/-! ### methods by names -/
/-- the def at a class's method m: its promise -/
structure MeB (P : Program) (w : World) (K : PySem.W.Frag) (mg : Str → Option Value) (base : Heap) (CX : CXT) (k : Nat) (C : Addr) (m : Str) (ps : List Str) (sp : Sp) : Prop where
  ex : ∃ (f : Addr) (fd : FuncData), PySem.W.findIn K (.ref C) m = some (some (.ref f)) ∧ PySem.W.isFn K (.ref f) = true ∧ PySem.W.keepIn K (.ref f) = true ∧ Binds K fd ps [] ∧ FnOk P w K mg base CX k f fd ps sp
section
variable {fa : List He.Fa} {fn : List He.DefD} {gt : List PropD} {ex : PySem.W.Frag → Bool} {K : PySem.W.Frag} {mg : Str → Option Value} {P : Program} {w : World} {base : Heap}
theorem me_mk {N ps : List Str} {sp : Sp} {k : Nat} {c m q : Str} (st : Stmt) (S : Say fa fn gt ex K mg) (i j : Nat) (hd : fn[i]? = some ⟨(c, some m), m, q, defArgs st, defBody st, defScope st, [], []⟩) (hg : fa[j]? = some (.meth c m)) (SC : FnScope N ps (defScope st))
    (hb : ∀ (kV doc pm : Value) (an : Option Addr) (cdv ct : Value) (us : List Value), us.length = ps.length → bindArgs (PySem.W.fnOf m q (defArgs st) (defBody st) (defScope st) .none kV doc pm an cdv ct) ⟨us, []⟩ = pure (ps.zip us))
    (len : ∀ vs H Q E, sp vs H Q E → vs.length = ps.length)
    (hbody : ∀ (f : Addr) (cdv : Value) (A : Around) (outer : List Env) (s : Shared) (H : Hp) (vs : List V) (Q : VK) (E : XK), Room k (A.deeper (envOfC q (defScope st) s.heap.objs.size f cdv)) → sp vs H Q E →
      ∃ t, PSs (cxOf CX0 P w K mg base N q (defScope st) f cdv A outer s H E).nox (defBody st) t ∧ t { nx := fun _ H' => Q .non H', rt := Q } (start N vs) H) : MeB P w K mg base CX0 (k + 1) (He.ga K c) m ps sp := by
  obtain ⟨fd, F⟩ := S.c.def_ i hd
  have M := He.meth_ok (S.c.fact j hg)
  refine ⟨_, fd, M.at_, M.fn, M.kp, F.bindsN hb, ?_⟩
  refine F.ok SC len fun cdv A outer s H vs Q E hr h => ?_
  obtain ⟨t, h1, h2⟩ := hbody _ cdv A outer s H vs Q E hr h
  exact ⟨t, h1.nox, h2⟩
end
section
variable {X : Cx} {CX : CXT} {k : Nat} {C : Addr} {x m : Str} {ps : List Str} {sp : Sp} {E : XK} {p pos apos : Pos} {e o : Expr} {es : List Expr} {ta : TE} {t : TA}
/-- C(e, ..) -/
theorem pe_mk (M : MeB X.prog X.w X.K X.mg X.base CX k C "__init__" ps sp) (hmk : PySem.W.makesIn X.K C = true) (hkc : PySem.W.keepIn X.K (.ref C) = true) (hm : X.mg x = some (.ref C)) (hr : Room (k + 1) X.A) (hx : Passes CX X E) (ha : PA X (e :: es) t)
    (hg : Gl X x := by rfl) (hdb : (x == ("__debug__" : Str)) = false := by decide)
    (he : starEach (e :: es) X.env = (false, eval e X.env) :: starEach es X.env := by rfl) (hpl : (backTo pos (starEach es X.env)).any (·.1) = false := by rfl) :
    PE X (.Call (.Name x p) (e :: es) [] pos) (tMake C sp [] E t) := by
  obtain ⟨f, fd, a, b, c, d, F⟩ := M.ex
  exact pe_make ⟨hmk, a, b, hkc⟩ F hr hg hm d .nil hx ha hdb he hpl
/-- o.m(e, ..) -/
theorem pe_me {pl : Sem Bool} (M : MeB X.prog X.w X.K X.mg X.base CX k C m ps sp) (c : Cls X.K C) (hr : Room k X.A) (hx : Passes CX X E) (ho : PE X o ta) (ha : PA X (e :: es) t)
    (hst : starEach (e :: es) X.env = (false, eval e X.env) :: starEach es X.env := by rfl) (hpl : (backTo pos (starEach es X.env)).any (·.1) = false := by rfl)
    (ht : eval (.Call (.Attribute o m apos) (e :: es) [] pos) X.env = (do
      let ov ← eval o X.env
      standAt apos.atName
      let (f, first) ← holding [ov] (getMethod ov m pl)
      callWith pos f first (backTo pos (starEach (e :: es) X.env)) (backToKw pos (keywordEach [] X.env))) := by rfl) :
    PE X (.Call (.Attribute o m apos) (e :: es) [] pos) (tMeth C m sp [] E ta t) := by
  obtain ⟨f, fd, a, b, c', d, F⟩ := M.ex
  exact pe_meth ho c ⟨a, b, c'⟩ F hr d .nil hx ha hst hpl ht
theorem pe_me0 {pl : Sem Bool} (M : MeB X.prog X.w X.K X.mg X.base CX k C m ps sp) (c : Cls X.K C) (hr : Room k X.A) (hx : Passes CX X E) (ho : PE X o ta)
    (ht : eval (.Call (.Attribute o m apos) [] [] pos) X.env = (do
      let ov ← eval o X.env
      standAt apos.atName
      let (f, first) ← holding [ov] (getMethod ov m pl)
      callWith pos f first (backTo pos (starEach [] X.env)) (backToKw pos (keywordEach [] X.env))) := by rfl) :
    PE X (.Call (.Attribute o m apos) [] [] pos) (tMeth C m sp [] E ta tNil) := by
  obtain ⟨f, fd, a, b, c', d, F⟩ := M.ex
  exact pe_meth0 ho c ⟨a, b, c'⟩ F hr d .nil hx ht
end
/-! ### the callee under another around -/
section
variable {X : Cx} {pins : List (Addr × Obj)} {σ : L2.St} {H : Hp} {s : Shared} {CX : CXT} {k : Nat} {f C : Addr} {sp : Sp} {E : XK}
theorem run_sub {A : Around} {Q : VK} {us : List Value} {vs : List V} (sb : Sub X k A) (F : FnR X.prog X.w X.K X.mg X.base CX k f sp) (hx : Passes CX X E) (I : Inv X pins σ H s) (r : Vals vs us) (h : sp vs H Q E) :
    wpAny (model X.prog X.w) A (call (.ref f) us) (EP X pins σ Q) X.xe s := by
  have e0 : Env0 X.prog X.w X.K X.mg X.base A X.stack s H := by
    have e := I.env0
    exact ⟨by rw [sb.fr]; exact e.frames, e.mod, e.bs, e.bsz, e.funs, e.frf, e.hok, e.bare⟩
  refine wpAny_call (codeAny_mono (F A X.stack s H us vs Q E sb.room e0 r h) fun r s' hq => ?_)
  cases r with
  | error e => exact hx pins σ H s e s' I hq
  | ok fl =>
    cases fl with
    | ret u => exact I.after hq
    | next => exact False.elim hq
    | brk => exact False.elim hq
    | cont => exact False.elim hq
theorem MeB.raw {P : Program} {w : World} {K : PySem.W.Frag} {mg : Str → Option Value} {base : Heap} {m : Str} {ps : List Str} (M : MeB P w K mg base CX k C m ps sp) :
    ∃ f, PySem.W.findIn K (.ref C) m = some (some (.ref f)) ∧ PySem.W.isFn K (.ref f) = true ∧ FnR P w K mg base CX k f sp := by
  obtain ⟨f, fd, a, b, c, d, F⟩ := M.ex
  exact ⟨f, a, b, (F.raw d .nil).imp fun vs H Q E h => by rw [List.append_nil]; exact h⟩
theorem looks_at {M : Model} {h : Heap} {a : Addr} {o : Obj} {T : Value} (e : h.get? a = some o) (c : o.cls = T) : PySem.W.Looks M h (typeOf (.ref a)) T := c ▸ (PySem.W.Looks.ld e).andThen .now
/-! ### x == y, x an instance -/
def rOwnEq (K : PySem.W.Frag) (C : Addr) (sp : Sp) (E : XK) : R2 := fun x y H Q => ∃ a dx fs, x = .ref a ∧ H a = some (.ins C dx fs) ∧
  ((∃ b dy gs, y = .ref b ∧ H b = some (.ins C dy gs)) ∨ ∃ b xs, y = .ref b ∧ H b = some (.tup xs) ∧ PySem.W.notFirst K C (.type "tuple") = true) ∧ sp [x, y] H (fun v H' => ∃ b, v = .bl b ∧ Q v H') E
theorem rc_own {op : CmpOp} {A : Around} {ps : List Str} {x y : V} {v u : Value} {Q : VK} (M : MeB X.prog X.w X.K X.mg X.base CX k C (PySem.cmpInfo op).2.1 ps sp) (sb : Sub X k A) (hx : Passes CX X E) (I : Inv X pins σ H s) (rx : RelV x v) (ry : RelV y u) (h : rOwnEq X.K C sp E x y H Q) :
    wpAny (model X.prog X.w) A (richCompare op v u) (fun r s' => ∃ b, r = .bool b ∧ EP X pins σ Q r s') X.xe s := by
  obtain ⟨a, dx, fs, rfl, ha, hy, q⟩ := h
  obtain ⟨f, h1, h2, F⟩ := M.raw
  cases rx
  obtain ⟨mA, J, _⟩ := ins_get I.hok ha
  obtain ⟨od, J, _⟩ := J.look
  obtain ⟨m, hF⟩ := I.fr
  have fin : wpAny (model X.prog X.w) A (call (.ref f) [.ref a, u]) (PySem.W.CmpBack fun r s' => ∃ b, r = .bool b ∧ EP X pins σ Q r s') X.xe s := by
    refine thn (run_sub (vs := [.ref a, y]) sb F hx I (.cons rfl (.cons ry .nil)) q) fun r s' ⟨w, H', I', rw', b, eb, q'⟩ => ?_
    subst eb
    have er : r = .bool b := rw'
    subst er
    exact ⟨b, rfl, .bl b, H', I', rfl, q'⟩
  rcases hy with ⟨b, dy, gs, rfl, hb⟩ | ⟨b, xs, rfl, hb, hn⟩
  · cases ry
    obtain ⟨mB, J', _⟩ := ins_get I.hok hb
    obtain ⟨od', J', _⟩ := J'.look
    exact PySem.W.cmp_K (tb := .ref C) sb.room.units0 hF I.ok.mod.kin J J'.type (by simp [PySem.W.notFirst]) h1 h2 fin
  · cases ry
    obtain ⟨_, its, _, o, ho, hc, _⟩ := (show ObjOk X.prog X.w H s.heap b (.tup xs) from I.hok b _ hb)
    exact PySem.W.cmp_K (tb := .type "tuple") sb.room.units0 hF I.ok.mod.kin J (looks_at ho hc) hn h1 h2 fin
theorem op_eqI {ps : List Str} (M : MeB X.prog X.w X.K X.mg X.base CX k C "__eq__" ps sp) (hr : Room k X.A) (hx : Passes CX X E) : OpR X (compareOp .Eq) (rOwnEq X.K C sp E) := by
  intro pins s σ H x y v u Q I rx ry hq
  show wpAny (model X.prog X.w) X.A (richCompare .Eq v u) (EP X pins σ Q) X.xe s
  exact thn (rc_own (op := .Eq) M ⟨hr, rfl⟩ hx I rx ry hq) fun r s' ⟨b, _, z⟩ => z
end
/-! ### x != y, by the own == -/
def neIn (K : PySem.W.Frag) (C f : Addr) : Bool := match K.lookup C with
  | some ⟨.type t, _, .cls cd, sl⟩ => decide (t = "type") && (match cd.mro, sl.toList with
    | [.ref C', .type o], [_, _, _, _, some (.builtin _), _] => (C' == C) && (decide (o = "object") && (!cd.hasDel && (PySem.W.nsOkIn K cd.ns && (decide (PySem.W.nsIn K cd.ns "__eq__" = some (some (.ref f))) && (decide (PySem.W.nsIn K cd.ns "__ne__" = some none) && (match K.lookup f with
      | some o => decide (o.cls = .type "function")
      | none => false))))))
    | _, _ => false)
  | _ => false
theorem ns_some_of {K : PySem.W.Frag} {h : Heap} {N : Addr} {mg : Str → Option Value} {n : Str} {v : Value} (X : K.In h) (G : h.Ns N mg) (e : PySem.W.nsIn K N n = some (some v)) : mg n = some v := by
  obtain ⟨o, es, ep, ho, hd, _, hf⟩ := G
  unfold PySem.W.nsIn at e
  split at e
  · rename_i c d es' n' sl q
    have := X _ _ q
    rw [ho] at this
    cases this
    cases hd
    split at e
    · rename_i en he
      cases e
      rw [← hf]
      unfold nsFind findBy
      rw [← Array.find?_toList, he]
      rfl
    · split at e <;> cases e
  · cases e
theorem neIn_of {K : PySem.W.Frag} {C f x : Addr} {h : Heap} {ox : Obj} (X : K.In h) (e : neIn K C f = true) (hx : h.get? x = some ox) (hc : ox.cls = .ref C) : h.OwnEqNoNe x C f "object" [.type "object"] := by
  unfold neIn at e
  split at e
  · rename_i t dd cd sl ho
    obtain ⟨e0, e'⟩ := He.ba e
    clear e
    have et : t = "type" := of_decide_eq_true e0
    subst et
    split at e'
    · rename_i C' o k0 k1 k2 k3 n k5 hm hs
      obtain ⟨e1, f1⟩ := He.ba e'
      obtain ⟨e2, f2⟩ := He.ba f1
      obtain ⟨e3, f3⟩ := He.ba f2
      obtain ⟨e4, f4⟩ := He.ba f3
      obtain ⟨e5, f5⟩ := He.ba f4
      obtain ⟨e6, e7⟩ := He.ba f5
      have eC : C' = C := beq_iff_eq.mp e1
      subst eC
      have eo : o = "object" := of_decide_eq_true e2
      subst eo
      replace e5 := of_decide_eq_true e5
      replace e6 := of_decide_eq_true e6
      obtain ⟨nm, bs, mro, ns, qn, hd, sn, sub, ab, col, del⟩ := cd
      dsimp only at hm e3 e4 e5 e6
      have hdel : del = false := by simpa using e3
      subst hm hdel
      have hsl : sl = #[k0, k1, k2, k3, some (.builtin n), k5] := by
        obtain ⟨l⟩ := sl
        simp only at hs
        rw [hs]
      subst hsl
      cases hf : K.lookup f with
      | none => rw [hf] at e7; cases e7
      | some of =>
        rw [hf] at e7
        refine ⟨ox, of, nm, qn, ns, bs, hd, sn, sub, ab, col, dd, k0, k1, k2, k3, k5, n, _, _, hx, hc, X _ _ ho, .of_isNs (PySem.W.isNs_of_in X e4), ns_some_of X (.of_isNs (PySem.W.isNs_of_in X e4)) e5, X _ _ hf, of_decide_eq_true e7, PySem.F.cmp_object.mro, PySem.F.cmp_object.eq.lookup, PySem.W.nsMap_none_of_in X e4 e6⟩
    · cases e'
  · cases e
section
variable {X : Cx} {CX : CXT} {k : Nat} {f C : Addr} {sp : Sp} {E : XK}
def rOwnNe (C : Addr) (sp : Sp) (E : XK) : R2 := fun x y H Q => ∃ a dx fs b dy gs, x = .ref a ∧ H a = some (.ins C dx fs) ∧ y = .ref b ∧ H b = some (.ins C dy gs) ∧ sp [x, y] H (fun v H' => ∃ b, v = .bl b ∧ Q (.bl (!b)) H') E
theorem op_neI (F : FnR X.prog X.w X.K X.mg X.base CX k f sp) (hn : neIn X.K C f = true) (hr : Room (k + 1) X.A) (hx : Passes CX X E) : OpR X (compareOp .NotEq) (rOwnNe C sp E) := by
  intro pins s σ H x y v u Q I rx ry hq
  obtain ⟨a, dx, fs, b, dy, gs, rfl, ha, rfl, hb, q⟩ := hq
  cases rx
  cases ry
  obtain ⟨mA, J, _⟩ := ins_get I.hok ha
  obtain ⟨od, J, _⟩ := J.look
  obtain ⟨mB, J', _⟩ := ins_get I.hok hb
  obtain ⟨od', J', _⟩ := J'.look
  have U := neIn_of I.kIn hn J.at_ J.cls
  obtain ⟨hp, g, d, tk, os⟩ := s
  refine compareOp_ne_ownEq PySem.F.cmp_object U J'.at_ J'.cls (by have := hr.un; omega) ?_
  refine thn (run_sub (A := X.A.in1) (vs := [.ref a, .ref b]) ⟨hr.in1, rfl⟩ F hx I (.cons rfl (.cons rfl .nil)) q) fun r s' ⟨w, H', I', rw', b, eb, q'⟩ => ?_
  subst eb
  have er : r = .bool b := rw'
  subst er
  exact ⟨b, rfl, .bl (!b), H', I', rfl, q'⟩
theorem op_neM {ps : List Str} (M : MeB X.prog X.w X.K X.mg X.base CX k C "__eq__" ps sp) (hn : neIn X.K C (He.ma X.K C "__eq__") = true) (hr : Room (k + 1) X.A) (hx : Passes CX X E) : OpR X (compareOp .NotEq) (rOwnNe C sp E) := by
  obtain ⟨f, h1, h2, F⟩ := M.raw
  have ef : He.ma X.K C "__eq__" = f := by unfold He.ma; rw [h1]
  rw [ef] at hn
  exact op_neI F hn hr hx
/-! ### len(x), x an instance -/
def rLenI (C : Addr) (sp : Sp) (E : XK) : List V → Hp → VK → Prop := fun vs H Q => ∃ a dx fs, vs = [.ref a] ∧ H a = some (.ins C dx fs) ∧ sp [.ref a] H (fun v H' => ∃ n : Int, v = .int n ∧ 0 ≤ n ∧ n < 2 ^ 63 ∧ Q (.int n) H') E
theorem call_lenI {ps : List Str} (M : MeB X.prog X.w X.K X.mg X.base CX k C "__len__" ps sp) (hr : Room (k + 1) X.A) (hx : Passes CX X E) : CallR X (.builtin "len") (rLenI C sp E) := by
  intro pins s σ H vs us Q I r hq
  obtain ⟨a, dx, fs, rfl, ha, q⟩ := hq
  rw [Vals.ref1 r]
  obtain ⟨f, h1, h2, F⟩ := M.raw
  obtain ⟨mA, J, _⟩ := ins_get I.hok ha
  obtain ⟨od, J, _⟩ := J.look
  obtain ⟨m, hF⟩ := I.fr
  refine PySem.W.len_K hF I.ok.mod.kin J h1 h2 (thn (run_sub (A := X.A.in1) (vs := [.ref a]) ⟨hr.in1, rfl⟩ F hx I (.cons rfl .nil) q) fun r s' ⟨w, H', I', rw', n, en, h0, h3, q'⟩ => ?_)
  subst en
  obtain ⟨t, rfl⟩ := rw'
  exact ⟨⟨h0, h3⟩, .int n, H', I'.tok _, ⟨_, rfl⟩, q'⟩
end
/-! ### a property, a call of an instance -/
/-- the property f of the class at C: its getter's promise -/
structure PrB (P : Program) (w : World) (K : PySem.W.Frag) (mg : Str → Option Value) (base : Heap) (CX : CXT) (k : Nat) (C : Addr) (f : Str) (ps : List Str) (sp : Sp) : Prop where
  ex : ∃ (p g : Addr) (fd : FuncData), PropOf K C f p g ∧ Binds K fd ps [] ∧ FnOk P w K mg base CX k g fd ps sp
theorem pr_mk {fa : List He.Fa} {fn : List He.DefD} {gt : List PropD} {ex : PySem.W.Frag → Bool} {K : PySem.W.Frag} {mg : Str → Option Value} {P : Program} {w : World} {base : Heap} {N ps : List Str} {sp : Sp} {k : Nat} {c f q : Str} (st : Stmt) (S : Say fa fn gt ex K mg) (i : Nat) (hd : gt[i]? = some ⟨c, f, q, defArgs st, defBody st, defScope st⟩) (SC : FnScope N ps (defScope st))
    (hb : ∀ (kV doc pm : Value) (an : Option Addr) (cdv ct : Value) (us : List Value), us.length = ps.length → bindArgs (PySem.W.fnOf f q (defArgs st) (defBody st) (defScope st) .none kV doc pm an cdv ct) ⟨us, []⟩ = pure (ps.zip us))
    (len : ∀ vs H Q E, sp vs H Q E → vs.length = ps.length)
    (hbody : ∀ (f : Addr) (cdv : Value) (A : Around) (outer : List Env) (s : Shared) (H : Hp) (vs : List V) (Q : VK) (E : XK), Room k (A.deeper (envOfC q (defScope st) s.heap.objs.size f cdv)) → sp vs H Q E →
      ∃ t, PSs (cxOf CX0 P w K mg base N q (defScope st) f cdv A outer s H E).nox (defBody st) t ∧ t { nx := fun _ H' => Q .non H', rt := Q } (start N vs) H) : PrB P w K mg base CX0 (k + 1) (He.ga K c) f ps sp := by
  obtain ⟨h1, fd, F⟩ := S.prop i hd
  refine ⟨_, _, fd, h1, F.bindsN hb, ?_⟩
  refine F.ok SC len fun cdv A outer s H vs Q E hr h => ?_
  obtain ⟨t, h1, h2⟩ := hbody _ cdv A outer s H vs Q E hr h
  exact ⟨t, h1.nox, h2⟩
section
variable {X : Cx} {CX : CXT} {k : Nat} {C : Addr} {f : Str} {ps : List Str} {sp : Sp} {E : XK} {e fe : Expr} {es : List Expr} {pos : Pos} {ta tf : TE} {t : TA}
theorem pe_pr (M : PrB X.prog X.w X.K X.mg X.base CX k C f ps sp) (c : Cls X.K C) (hr : Room (k + 1) X.A) (hx : Passes CX X.nox E) (he : PE X e ta)
    (hab : attributeBase e f X.env (eval e X.env) = eval e X.env := by rfl) : PE X (.Attribute e f pos) (tProp C sp [] E ta) := by
  obtain ⟨p, g, fd, h1, h2, h3⟩ := M.ex
  exact pe_prop he c h1 h3 hr h2 .nil hx hab
def tCallI (C : Addr) (sp : Sp) (E : XK) (tf : TE) (t : TA) : TE := fun σ H Q => tf σ H fun y H1 => ∃ a, y = V.ref a ∧ t σ H1 fun vs H2 => (∃ dx fs, H2 a = some (.ins C dx fs)) ∧ sp (V.ref a :: vs) H2 Q E
theorem pe_callI (M : MeB X.prog X.w X.K X.mg X.base CX k C "__call__" ps sp) (hfi : PySem.W.fnIn X.K (He.ma X.K C "__call__") = true) (hr : Room k X.A) (hx : Passes CX X E) (hf : PE X fe tf) (ha : PA X (e :: es) t)
    (ht : eval (.Call fe (e :: es) [] pos) X.env = (do callWith pos (← eval fe X.env) [] (backTo pos (starEach (e :: es) X.env)) (backToKw pos (keywordEach [] X.env))) := by rfl)
    (he : starEach (e :: es) X.env = (false, eval e X.env) :: starEach es X.env := by rfl) (hpl : (backTo pos (starEach es X.env)).any (·.1) = false := by rfl) : PE X (.Call fe (e :: es) [] pos) (tCallI C sp E tf t) := by
  obtain ⟨g, h1, h2, F⟩ := M.raw
  have eg : He.ma X.K C "__call__" = g := by unfold He.ma; rw [h1]
  rw [eg] at hfi
  refine ⟨fun pins s σ H Q I h => ?_⟩
  refine Call_ (thn (hf.run pins s σ H _ I h) fun u s1 ⟨y, H1, I1, ry, a, ey, q⟩ => ?_) ht
  subst ey
  obtain rfl : u = Value.ref a := ry
  refine StX.callO_with (thn (ha.run pos pins s1 σ H1 _ I1 q) fun us s2 ⟨vs, H2, I2, r, hi, q2⟩ => ?_) he hpl
  have hi' : StX.InsC X H2 a C := .inr hi
  obtain ⟨ox, od, J, hd⟩ := StX.insC_at I2 hi'
  exact ⟨⟨C, ox, od, J, hd⟩, StX.run_callO ⟨h1, h2, hfi⟩ F hr hx I2 hi' r q2⟩
end
end Sr
namespace Sr
open PySem PySem.Spec PyProof.Rows L2
/-! ### isinstance(x, C), C an own class -/
def clsAt (K : PySem.W.Frag) (C : Addr) : Bool := decide (PySem.W.findIn K (.ref C) "__class__" = some (some (.builtin "object.__class__"))) && (decide (PySem.W.specialIn K (.builtin "object.__class__") "__get__" = some (some (.builtin "getset_descriptor.__get__"))) &&
  (decide (PySem.W.takesIn K (.builtin "object.__class__") = some true) && (decide (PySem.W.mroIn K C (.type "object") = some true) && (decide (PySem.W.kitOne K (.ref C) (.ref C) = some true) &&
  (decide (PySem.W.kitOne K (.type "tuple") (.ref C) = some false) && (decide (PySem.W.kitOne K (.type "int") (.ref C) = some false) && (decide (PySem.W.kitOne K (.type "NoneType") (.ref C) = some false) && (decide (PySem.W.kitOne K (.type "str") (.ref C) = some false) && (decide (PySem.W.kitOne K (.type "list") (.ref C) = some false) && decide (PySem.W.kitOne K (.type "bool") (.ref C) = some false))))))))))
/-- isinstance(x, C): an instance of C, or a value of a built-in kind -/
def rIsC (C : Addr) : List V → Hp → VK → Prop := fun xs H Q => ∃ x, xs = [x, .ref C] ∧ ((∃ a dx fs, x = .ref a ∧ H a = some (.ins C dx fs) ∧ Q (.bl true) H) ∨ (∃ k, kdOf x H = some k ∧ k ≠ .dct ∧ Q (.bl false) H))
theorem call_isC {X : Cx} {C : Addr} (c : Cls X.K C) (hC : clsAt X.K C = true) : CallR X (.builtin "isinstance") (rIsC C) := by
  intro pins s σ H xs us Q I r h
  obtain ⟨x, rfl, h⟩ := h
  unfold clsAt at hC
  simp only [Bool.and_eq_true, decide_eq_true_eq] at hC
  obtain ⟨h1, h2, h3, h4, h5, h6, h7, h8, h9, h10, h11⟩ := hC
  rcases h with ⟨a, dx, fs, rfl, ha, q⟩ | ⟨k, hk, hn, q⟩
  · exact call_isi pins s σ H _ us Q I r ⟨_, _, _, _, true, rfl, .own C, .base (.ins ha c h1 h2 h3 h4), h5, q⟩
  · refine call_isi pins s σ H _ us Q I r ⟨_, _, _, _, false, rfl, .own C, kdOf_ok hk, ?_, q⟩
    cases k with
    | int => exact h7
    | bl => exact h11
    | str => exact h9
    | non => exact h8
    | lst => exact h10
    | tup => exact h6
    | dct => exact absurd rfl hn
/-! iterators whose K is written out (inside of a comprehension the context's own K would carry its bound names) -/
theorem pi_listK {X : Cx} {tg l : Expr} {tl : TE} {K : PySem.W.Frag} (hK : X.K = K) (hl : PE X l tl) : PI X tg l (iList K tl) := by subst hK; exact pi_list hl
theorem pi_tupK {X : Cx} {tg l : Expr} {tl : TE} {K : PySem.W.Frag} (hK : X.K = K) (hl : PE X l tl) : PI X tg l (iTup K tl) := by subst hK; exact pi_tup hl
end Sr

namespace Sr
open PySem PySem.Spec PyProof.Rows L2
/-! ### in, not in: data among the items of a list or tuple -/
def rInD (K : PySem.W.Frag) (neg : Bool) : R2 := fun x y H Q => ∃ d xs, Dp K H x d ∧ (Dp K H y (.tuple xs) ∨ Dp K H y (.list xs)) ∧ d.canLay0 = true ∧ d.depth ≤ 8 ∧ PyData.canLayAll0 xs = true ∧
  Q (.bl (if neg then !(xs.any fun y => PyData.eqv y d) else xs.any fun y => PyData.eqv y d)) H
section
variable {X : Cx}
theorem op_inD (hu : X.A.units + 64 < cLine) : OpR X (compareOp .In) (rInD X.K false) := by
  intro pins s σ H x y v u Q I rx ry h
  obtain ⟨d, xs, hd, hy, c1, c2, c3, q⟩ := h
  obtain ⟨as, r1⟩ := Dp.reads I d x v hd rx
  have hu' : X.A.units + 1 + min (PyData.depthAll xs) d.depth < cLine := by
    have : min (PyData.depthAll xs) d.depth ≤ d.depth := Nat.min_le_right _ _
    omega
  rcases hy with hy | hy
  · obtain ⟨bs, r2⟩ := Dp.reads I _ y u hy ry
    exact SeqAt.in_tuple_reads r2 r1 c3 c1 hu' ⟨.bl _, H, I, rfl, q⟩
  · obtain ⟨bs, r2⟩ := Dp.reads I _ y u hy ry
    exact SeqAt.in_list_reads r2 r1 c3 c1 hu' ⟨.bl _, H, I, rfl, q⟩
theorem op_notInD (hu : X.A.units + 64 < cLine) : OpR X (compareOp .NotIn) (rInD X.K true) := by
  intro pins s σ H x y v u Q I rx ry h
  obtain ⟨d, xs, hd, hy, c1, c2, c3, q⟩ := h
  obtain ⟨as, r1⟩ := Dp.reads I d x v hd rx
  have hu' : X.A.units + 1 + min (PyData.depthAll xs) d.depth < cLine := by
    have : min (PyData.depthAll xs) d.depth ≤ d.depth := Nat.min_le_right _ _
    omega
  rcases hy with hy | hy
  · obtain ⟨bs, r2⟩ := Dp.reads I _ y u hy ry
    exact SeqAt.notIn_tuple_reads r2 r1 c3 c1 hu' ⟨.bl _, H, I, rfl, q⟩
  · obtain ⟨bs, r2⟩ := Dp.reads I _ y u hy ry
    exact SeqAt.notIn_list_reads r2 r1 c3 c1 hu' ⟨.bl _, H, I, rfl, q⟩
end
theorem dp_lst {K : PySem.W.Frag} {H : Hp} {a : Addr} {ns : List Int} (h : H a = some (.lst (List.map V.int ns))) : Dp K H (.ref a) (.list (ns.map PyData.int)) := .lst (.of h) (dpAll_ints ns)
theorem dp_tup {K : PySem.W.Frag} {H : Hp} {a : Addr} {ns : List Int} (h : H a = some (.tup (List.map V.int ns))) : Dp K H (.ref a) (.tuple (ns.map PyData.int)) := .tup (.of h) (dpAll_ints ns)
theorem lay_lst (ns : List Int) : PyData.canLay0 (.list (ns.map PyData.int)) = true := SeqAt.canLay_of_shaped (shaped_lst ns)
theorem lay_tup (ns : List Int) : PyData.canLay0 (.tuple (ns.map PyData.int)) = true := SeqAt.canLay_of_shaped (shaped_tup ns)
theorem depth_lst (ns : List Int) : PyData.depth (.list (ns.map PyData.int)) ≤ 8 := by
  have := depthAll_ints ns
  simp only [PyData.depth]; omega
theorem depth_tup (ns : List Int) : PyData.depth (.tuple (ns.map PyData.int)) ≤ 8 := by
  have := depthAll_ints ns
  simp only [PyData.depth]; omega
theorem eqv_lst (ns ms : List Int) : PyData.eqv (.list (ns.map PyData.int)) (.list (ms.map PyData.int)) = decide (ns = ms) := by rw [PyData.eqv, eqvAll_ints]
theorem eqv_tup (ns ms : List Int) : PyData.eqv (.tuple (ns.map PyData.int)) (.tuple (ms.map PyData.int)) = decide (ns = ms) := by rw [PyData.eqv, eqvAll_ints]
theorem walk_zipT {K : PySem.W.Frag} {a b : Addr} {xs ys : List V} {n : Nat} (hn : n = min xs.length ys.length) : Walk (RZ.ItzT K a b) n (fun H => SqT K H a xs ∧ SqT K H b ys) (YPair (fun i => xs[i]?) (fun i => ys[i]?)) := by
  subst hn
  refine ⟨fun i _ hi q => ?_, fun _ q => ⟨xs, ys, q.1, q.2, by omega⟩, fun i H v H' _ q y => ?_⟩
  · have h1 : i < xs.length := by omega
    have h2 : i < ys.length := by omega
    exact ⟨xs, ys, xs[i], ys[i], q.1, q.2, by simp [h1], by simp [h2]⟩
  · obtain ⟨T, x, z, h1, h2, h3, h4, h5⟩ := y
    exact ⟨T, x, z, h1, h2, h3, h4 xs q.1, h5 ys q.2⟩
theorem pg_tupK {X : Cx} {es : List Expr} {pos : Pos} {k : Nat} {t : TGs} {K : PySem.W.Frag} (n : Nat) (hK : X.K = K) (hc : X.calm = true) (h : PGs X es t)
    (hn : (assignEach es X.env).length = n := by rfl) (hst : (assignEach es X.env).findIdx? (·.1) = none := by rfl) : PG X (.Tuple es k pos) (gTup K n t) := by subst hK; exact pg_tup hc h hn hst
end Sr

namespace Lw
open PySem PySem.Spec PyProof.Rows L2 Sr
def top (i : Nat) : Stmt := PySem.Challenge.pw_slackrods_k17_whole_unlike_memories_are.main.body.getD i (.Pass ⟨0, 0, 0, 0⟩)
abbrev s__wall : Stmt := top 0
abbrev s_InvalidRow_init : Stmt := inClass (top 8) 0
abbrev s_InvalidMemory_init : Stmt := inClass (top 9) 0
abbrev s_is_int : Stmt := top 13
abbrev s_is_int_in : Stmt := top 14
abbrev s_is_place : Stmt := top 15
abbrev s_check_place : Stmt := top 16
abbrev s_check_row : Stmt := top 17
abbrev s_is_next : Stmt := top 19
abbrev s_moved : Stmt := top 20
abbrev s_Memory_init : Stmt := inClass (top 21) 0
abbrev s_Memory_places : Stmt := inClass (top 21) 1
abbrev s_Memory_place : Stmt := inClass (top 21) 2
abbrev s_Memory_row : Stmt := inClass (top 21) 3
abbrev s_Memory_call : Stmt := inClass (top 21) 4
abbrev s_Memory_len : Stmt := inClass (top 21) 5
abbrev s_Memory_eq : Stmt := inClass (top 21) 6
abbrev s_followed : Stmt := top 22
abbrev s_memory_of : Stmt := top 23
abbrev s_curve_of : Stmt := top 29
abbrev s_pull_of : Stmt := top 30
abbrev s_end_at : Stmt := top 31
abbrev s_never_falls : Stmt := top 32
abbrev s_sorted_arms : Stmt := top 33
abbrev s_added : Stmt := top 34
abbrev s_bent : Stmt := top 35
abbrev s_greatest_slack : Stmt := top 36
abbrev s_driven : Stmt := top 37
abbrev s_Rig_init : Stmt := inClass (top 38) 0
abbrev s_Rig_arms : Stmt := inClass (top 38) 1
abbrev s_Rig_pull : Stmt := inClass (top 38) 2
abbrev s_Rig_is_forward : Stmt := inClass (top 38) 3
abbrev s_Rig_still : Stmt := inClass (top 38) 4
abbrev s_Rig_curve : Stmt := inClass (top 38) 5
abbrev s_Rig_at : Stmt := inClass (top 38) 6
abbrev s_Rig_add : Stmt := inClass (top 38) 7
abbrev s_Rig_sub : Stmt := inClass (top 38) 8
abbrev s_Rig_neg : Stmt := inClass (top 38) 9
abbrev s_Rig_mul : Stmt := inClass (top 38) 10
abbrev s_Rig_rshift : Stmt := inClass (top 38) 11
abbrev s_Rig_call : Stmt := inClass (top 38) 12
abbrev s_Rig_len : Stmt := inClass (top 38) 13
abbrev s_Rig_getitem : Stmt := inClass (top 38) 14
abbrev s_Rig_iter : Stmt := inClass (top 38) 15
abbrev s_Rig_eq : Stmt := inClass (top 38) 16
abbrev s_ends_from : Stmt := top 39
abbrev s_ends_of : Stmt := top 40
abbrev s_rod : Stmt := top 41
abbrev s_L_random : Stmt := top 43
abbrev s_L_below : Stmt := top 44
abbrev s_L_row : Stmt := top 45
abbrev s_law : Stmt := top 46
def d__wall : He.DefD := ⟨("_wall", none), "_wall", "_wall", defArgs s__wall, defBody s__wall, defScope s__wall, [], []⟩
def d_is_int : He.DefD := ⟨("is_int", none), "is_int", "is_int", defArgs s_is_int, defBody s_is_int, defScope s_is_int, [], []⟩
def d_is_int_in : He.DefD := ⟨("is_int_in", none), "is_int_in", "is_int_in", defArgs s_is_int_in, defBody s_is_int_in, defScope s_is_int_in, [], []⟩
def d_is_place : He.DefD := ⟨("is_place", none), "is_place", "is_place", defArgs s_is_place, defBody s_is_place, defScope s_is_place, [], []⟩
def d_check_place : He.DefD := ⟨("check_place", none), "check_place", "check_place", defArgs s_check_place, defBody s_check_place, defScope s_check_place, [], []⟩
def d_check_row : He.DefD := ⟨("check_row", none), "check_row", "check_row", defArgs s_check_row, defBody s_check_row, defScope s_check_row, [], []⟩
def d_is_next : He.DefD := ⟨("is_next", none), "is_next", "is_next", defArgs s_is_next, defBody s_is_next, defScope s_is_next, [], []⟩
def d_moved : He.DefD := ⟨("moved", none), "moved", "moved", defArgs s_moved, defBody s_moved, defScope s_moved, [], []⟩
def d_Memory_init : He.DefD := ⟨("Memory", some "__init__"), "__init__", "Memory.__init__", defArgs s_Memory_init, defBody s_Memory_init, defScope s_Memory_init, [], []⟩
def d_Memory_call : He.DefD := ⟨("Memory", some "__call__"), "__call__", "Memory.__call__", defArgs s_Memory_call, defBody s_Memory_call, defScope s_Memory_call, [], []⟩
def d_Memory_len : He.DefD := ⟨("Memory", some "__len__"), "__len__", "Memory.__len__", defArgs s_Memory_len, defBody s_Memory_len, defScope s_Memory_len, [], []⟩
def d_Memory_eq : He.DefD := ⟨("Memory", some "__eq__"), "__eq__", "Memory.__eq__", defArgs s_Memory_eq, defBody s_Memory_eq, defScope s_Memory_eq, [], []⟩
def d_followed : He.DefD := ⟨("followed", none), "followed", "followed", defArgs s_followed, defBody s_followed, defScope s_followed, [], []⟩
def d_memory_of : He.DefD := ⟨("memory_of", none), "memory_of", "memory_of", defArgs s_memory_of, defBody s_memory_of, defScope s_memory_of, [], []⟩
def d_curve_of : He.DefD := ⟨("curve_of", none), "curve_of", "curve_of", defArgs s_curve_of, defBody s_curve_of, defScope s_curve_of, [], []⟩
def d_pull_of : He.DefD := ⟨("pull_of", none), "pull_of", "pull_of", defArgs s_pull_of, defBody s_pull_of, defScope s_pull_of, [], []⟩
def d_end_at : He.DefD := ⟨("end_at", none), "end_at", "end_at", defArgs s_end_at, defBody s_end_at, defScope s_end_at, [], []⟩
def d_never_falls : He.DefD := ⟨("never_falls", none), "never_falls", "never_falls", defArgs s_never_falls, defBody s_never_falls, defScope s_never_falls, [], []⟩
def d_sorted_arms : He.DefD := ⟨("sorted_arms", none), "sorted_arms", "sorted_arms", defArgs s_sorted_arms, defBody s_sorted_arms, defScope s_sorted_arms, [], []⟩
def d_added : He.DefD := ⟨("added", none), "added", "added", defArgs s_added, defBody s_added, defScope s_added, [], []⟩
def d_bent : He.DefD := ⟨("bent", none), "bent", "bent", defArgs s_bent, defBody s_bent, defScope s_bent, [], []⟩
def d_greatest_slack : He.DefD := ⟨("greatest_slack", none), "greatest_slack", "greatest_slack", defArgs s_greatest_slack, defBody s_greatest_slack, defScope s_greatest_slack, [], []⟩
def d_driven : He.DefD := ⟨("driven", none), "driven", "driven", defArgs s_driven, defBody s_driven, defScope s_driven, [], []⟩
def d_Rig_init : He.DefD := ⟨("Rig", some "__init__"), "__init__", "Rig.__init__", defArgs s_Rig_init, defBody s_Rig_init, defScope s_Rig_init, [], []⟩
def d_Rig_curve : He.DefD := ⟨("Rig", some "curve"), "curve", "Rig.curve", defArgs s_Rig_curve, defBody s_Rig_curve, defScope s_Rig_curve, [], []⟩
def d_Rig_at : He.DefD := ⟨("Rig", some "at"), "at", "Rig.at", defArgs s_Rig_at, defBody s_Rig_at, defScope s_Rig_at, [], []⟩
def d_Rig_add : He.DefD := ⟨("Rig", some "__add__"), "__add__", "Rig.__add__", defArgs s_Rig_add, defBody s_Rig_add, defScope s_Rig_add, [], []⟩
def d_Rig_sub : He.DefD := ⟨("Rig", some "__sub__"), "__sub__", "Rig.__sub__", defArgs s_Rig_sub, defBody s_Rig_sub, defScope s_Rig_sub, [], []⟩
def d_Rig_neg : He.DefD := ⟨("Rig", some "__neg__"), "__neg__", "Rig.__neg__", defArgs s_Rig_neg, defBody s_Rig_neg, defScope s_Rig_neg, [], []⟩
def d_Rig_mul : He.DefD := ⟨("Rig", some "__mul__"), "__mul__", "Rig.__mul__", defArgs s_Rig_mul, defBody s_Rig_mul, defScope s_Rig_mul, [], []⟩
def d_Rig_rshift : He.DefD := ⟨("Rig", some "__rshift__"), "__rshift__", "Rig.__rshift__", defArgs s_Rig_rshift, defBody s_Rig_rshift, defScope s_Rig_rshift, [], []⟩
def d_Rig_call : He.DefD := ⟨("Rig", some "__call__"), "__call__", "Rig.__call__", defArgs s_Rig_call, defBody s_Rig_call, defScope s_Rig_call, [], []⟩
def d_Rig_len : He.DefD := ⟨("Rig", some "__len__"), "__len__", "Rig.__len__", defArgs s_Rig_len, defBody s_Rig_len, defScope s_Rig_len, [], []⟩
def d_Rig_getitem : He.DefD := ⟨("Rig", some "__getitem__"), "__getitem__", "Rig.__getitem__", defArgs s_Rig_getitem, defBody s_Rig_getitem, defScope s_Rig_getitem, [], []⟩
def d_Rig_iter : He.DefD := ⟨("Rig", some "__iter__"), "__iter__", "Rig.__iter__", defArgs s_Rig_iter, defBody s_Rig_iter, defScope s_Rig_iter, [], []⟩
def d_Rig_eq : He.DefD := ⟨("Rig", some "__eq__"), "__eq__", "Rig.__eq__", defArgs s_Rig_eq, defBody s_Rig_eq, defScope s_Rig_eq, [], []⟩
def d_ends_from : He.DefD := ⟨("ends_from", none), "ends_from", "ends_from", defArgs s_ends_from, defBody s_ends_from, defScope s_ends_from, [], []⟩
def d_ends_of : He.DefD := ⟨("ends_of", none), "ends_of", "ends_of", defArgs s_ends_of, defBody s_ends_of, defScope s_ends_of, [], []⟩
def d_rod : He.DefD := ⟨("rod", none), "rod", "rod", defArgs s_rod, defBody s_rod, defScope s_rod, [], []⟩
def d_L_random : He.DefD := ⟨("_law_random", none), "_law_random", "_law_random", defArgs s_L_random, defBody s_L_random, defScope s_L_random, [], []⟩
def d_L_below : He.DefD := ⟨("_law_below", none), "_law_below", "_law_below", defArgs s_L_below, defBody s_L_below, defScope s_L_below, [], []⟩
def d_L_row : He.DefD := ⟨("_law_row", none), "_law_row", "_law_row", defArgs s_L_row, defBody s_L_row, defScope s_L_row, [], []⟩
def d_law : He.DefD := ⟨("law", none), "law", "law", defArgs s_law, defBody s_law, defScope s_law, [], []⟩
def fn : List He.DefD := [d__wall, d_is_int, d_is_int_in, d_is_place, d_check_place, d_check_row, d_is_next, d_moved, d_Memory_init, d_Memory_call, d_Memory_len, d_Memory_eq, d_followed, d_memory_of, d_curve_of, d_pull_of, d_end_at, d_never_falls, d_sorted_arms, d_added, d_bent, d_greatest_slack, d_driven, d_Rig_init, d_Rig_curve, d_Rig_at, d_Rig_add, d_Rig_sub, d_Rig_neg, d_Rig_mul, d_Rig_rshift, d_Rig_call, d_Rig_len, d_Rig_getitem, d_Rig_iter, d_Rig_eq, d_ends_from, d_ends_of, d_rod, d_L_random, d_L_below, d_L_row, d_law]
def g_Memory_places : PropD := ⟨"Memory", "places", "Memory.places", defArgs s_Memory_places, defBody s_Memory_places, defScope s_Memory_places⟩
def g_Memory_place : PropD := ⟨"Memory", "place", "Memory.place", defArgs s_Memory_place, defBody s_Memory_place, defScope s_Memory_place⟩
def g_Memory_row : PropD := ⟨"Memory", "row", "Memory.row", defArgs s_Memory_row, defBody s_Memory_row, defScope s_Memory_row⟩
def g_Rig_arms : PropD := ⟨"Rig", "arms", "Rig.arms", defArgs s_Rig_arms, defBody s_Rig_arms, defScope s_Rig_arms⟩
def g_Rig_pull : PropD := ⟨"Rig", "pull", "Rig.pull", defArgs s_Rig_pull, defBody s_Rig_pull, defScope s_Rig_pull⟩
def g_Rig_is_forward : PropD := ⟨"Rig", "is_forward", "Rig.is_forward", defArgs s_Rig_is_forward, defBody s_Rig_is_forward, defScope s_Rig_is_forward⟩
def g_Rig_still : PropD := ⟨"Rig", "still", "Rig.still", defArgs s_Rig_still, defBody s_Rig_still, defScope s_Rig_still⟩
def gt : List PropD := [g_Memory_places, g_Memory_place, g_Memory_row, g_Rig_arms, g_Rig_pull, g_Rig_is_forward, g_Rig_still]
def fa : List He.Fa := [.glo "_wall", .glo "RodError", .glo "InvalidSlack", .glo "InvalidTimes", .glo "NotForward", .glo "TooGreat", .glo "InvalidPlace", .glo "InvalidRow", .glo "InvalidMemory", .int "FAR" (1000000), .int "MAX_ROW" (1000), .glo "is_int", .glo "is_int_in", .glo "is_place", .glo "check_place", .glo "check_row", .glo "is_next", .glo "moved", .glo "Memory", .glo "followed", .glo "memory_of", .int "MAX_SLACK" (99), .int "MAX_TIMES" (99), .int "MAX_ARMS" (60), .int "MAX_DEEP" (999), .glo "curve_of", .glo "pull_of", .glo "end_at", .glo "never_falls", .glo "sorted_arms", .glo "added", .glo "bent", .glo "greatest_slack", .glo "driven", .glo "Rig", .glo "ends_from", .glo "ends_of", .glo "rod", .glo "_law_random", .glo "_law_below", .glo "_law_row", .glo "law", .free "len", .free "abs", .free "min", .free "max", .free "sum", .free "sorted", .free "any", .free "isinstance", .free "range", .free "enumerate", .free "zip", .free "super", .free "int", .free "list", .free "tuple", .free "dict", .free "bool", .free "ValueError", .free "TypeError", .cls "Memory", .mkr "Memory", .noat "Memory" "told", .meth "Memory" "__init__", .meth "Memory" "__call__", .meth "Memory" "__len__", .meth "Memory" "__eq__", .cls "Rig", .mkr "Rig", .noat "Rig" "told", .meth "Rig" "__init__", .meth "Rig" "curve", .meth "Rig" "at", .meth "Rig" "__add__", .meth "Rig" "__sub__", .meth "Rig" "__neg__", .meth "Rig" "__mul__", .meth "Rig" "__rshift__", .meth "Rig" "__call__", .meth "Rig" "__len__", .meth "Rig" "__getitem__", .meth "Rig" "__iter__", .meth "Rig" "__eq__"]
def ex (K : PySem.W.Frag) : Bool := (neIn K (He.ga K "Memory") (He.ma K (He.ga K "Memory") "__eq__") && (PySem.W.notFirst K (He.ga K "Memory") (.type "tuple") && (PySem.W.fnIn K (He.ma K (He.ga K "Memory") "__call__") && (clsAt K (He.ga K "Memory") && (neIn K (He.ga K "Rig") (He.ma K (He.ga K "Rig") "__eq__") && (PySem.W.notFirst K (He.ga K "Rig") (.type "tuple") && (PySem.W.fnIn K (He.ma K (He.ga K "Rig") "__call__") && (clsAt K (He.ga K "Rig") && true))))))))
abbrev SayL (K : PySem.W.Frag) (mg : Str → Option Value) : Prop := Say fa fn gt ex K mg
section
variable {K : PySem.W.Frag} {mg : Str → Option Value}
theorem S__wall (S : SayL K mg) : mg "_wall" = some (.ref (He.ga K "_wall")) := S.glo 0
theorem S_RodError (S : SayL K mg) : mg "RodError" = some (.ref (He.ga K "RodError")) := S.glo 1
theorem S_InvalidSlack (S : SayL K mg) : mg "InvalidSlack" = some (.ref (He.ga K "InvalidSlack")) := S.glo 2
theorem S_InvalidTimes (S : SayL K mg) : mg "InvalidTimes" = some (.ref (He.ga K "InvalidTimes")) := S.glo 3
theorem S_NotForward (S : SayL K mg) : mg "NotForward" = some (.ref (He.ga K "NotForward")) := S.glo 4
theorem S_TooGreat (S : SayL K mg) : mg "TooGreat" = some (.ref (He.ga K "TooGreat")) := S.glo 5
theorem S_InvalidPlace (S : SayL K mg) : mg "InvalidPlace" = some (.ref (He.ga K "InvalidPlace")) := S.glo 6
theorem S_InvalidRow (S : SayL K mg) : mg "InvalidRow" = some (.ref (He.ga K "InvalidRow")) := S.glo 7
theorem S_InvalidMemory (S : SayL K mg) : mg "InvalidMemory" = some (.ref (He.ga K "InvalidMemory")) := S.glo 8
theorem S_FAR (S : SayL K mg) : ∃ t, mg "FAR" = some (.int (1000000) t) := S.int 9
theorem S_MAX_ROW (S : SayL K mg) : ∃ t, mg "MAX_ROW" = some (.int (1000) t) := S.int 10
theorem S_is_int (S : SayL K mg) : mg "is_int" = some (.ref (He.ga K "is_int")) := S.glo 11
theorem S_is_int_in (S : SayL K mg) : mg "is_int_in" = some (.ref (He.ga K "is_int_in")) := S.glo 12
theorem S_is_place (S : SayL K mg) : mg "is_place" = some (.ref (He.ga K "is_place")) := S.glo 13
theorem S_check_place (S : SayL K mg) : mg "check_place" = some (.ref (He.ga K "check_place")) := S.glo 14
theorem S_check_row (S : SayL K mg) : mg "check_row" = some (.ref (He.ga K "check_row")) := S.glo 15
theorem S_is_next (S : SayL K mg) : mg "is_next" = some (.ref (He.ga K "is_next")) := S.glo 16
theorem S_moved (S : SayL K mg) : mg "moved" = some (.ref (He.ga K "moved")) := S.glo 17
theorem S_Memory (S : SayL K mg) : mg "Memory" = some (.ref (He.ga K "Memory")) := S.glo 18
theorem S_followed (S : SayL K mg) : mg "followed" = some (.ref (He.ga K "followed")) := S.glo 19
theorem S_memory_of (S : SayL K mg) : mg "memory_of" = some (.ref (He.ga K "memory_of")) := S.glo 20
theorem S_MAX_SLACK (S : SayL K mg) : ∃ t, mg "MAX_SLACK" = some (.int (99) t) := S.int 21
theorem S_MAX_TIMES (S : SayL K mg) : ∃ t, mg "MAX_TIMES" = some (.int (99) t) := S.int 22
theorem S_MAX_ARMS (S : SayL K mg) : ∃ t, mg "MAX_ARMS" = some (.int (60) t) := S.int 23
theorem S_MAX_DEEP (S : SayL K mg) : ∃ t, mg "MAX_DEEP" = some (.int (999) t) := S.int 24
theorem S_curve_of (S : SayL K mg) : mg "curve_of" = some (.ref (He.ga K "curve_of")) := S.glo 25
theorem S_pull_of (S : SayL K mg) : mg "pull_of" = some (.ref (He.ga K "pull_of")) := S.glo 26
theorem S_end_at (S : SayL K mg) : mg "end_at" = some (.ref (He.ga K "end_at")) := S.glo 27
theorem S_never_falls (S : SayL K mg) : mg "never_falls" = some (.ref (He.ga K "never_falls")) := S.glo 28
theorem S_sorted_arms (S : SayL K mg) : mg "sorted_arms" = some (.ref (He.ga K "sorted_arms")) := S.glo 29
theorem S_added (S : SayL K mg) : mg "added" = some (.ref (He.ga K "added")) := S.glo 30
theorem S_bent (S : SayL K mg) : mg "bent" = some (.ref (He.ga K "bent")) := S.glo 31
theorem S_greatest_slack (S : SayL K mg) : mg "greatest_slack" = some (.ref (He.ga K "greatest_slack")) := S.glo 32
theorem S_driven (S : SayL K mg) : mg "driven" = some (.ref (He.ga K "driven")) := S.glo 33
theorem S_Rig (S : SayL K mg) : mg "Rig" = some (.ref (He.ga K "Rig")) := S.glo 34
theorem S_ends_from (S : SayL K mg) : mg "ends_from" = some (.ref (He.ga K "ends_from")) := S.glo 35
theorem S_ends_of (S : SayL K mg) : mg "ends_of" = some (.ref (He.ga K "ends_of")) := S.glo 36
theorem S_rod (S : SayL K mg) : mg "rod" = some (.ref (He.ga K "rod")) := S.glo 37
theorem S__law_random (S : SayL K mg) : mg "_law_random" = some (.ref (He.ga K "_law_random")) := S.glo 38
theorem S__law_below (S : SayL K mg) : mg "_law_below" = some (.ref (He.ga K "_law_below")) := S.glo 39
theorem S__law_row (S : SayL K mg) : mg "_law_row" = some (.ref (He.ga K "_law_row")) := S.glo 40
theorem S_law (S : SayL K mg) : mg "law" = some (.ref (He.ga K "law")) := S.glo 41
theorem S_len (S : SayL K mg) : mg "len" = none := S.free 42
theorem S_abs (S : SayL K mg) : mg "abs" = none := S.free 43
theorem S_min (S : SayL K mg) : mg "min" = none := S.free 44
theorem S_max (S : SayL K mg) : mg "max" = none := S.free 45
theorem S_sum (S : SayL K mg) : mg "sum" = none := S.free 46
theorem S_sorted (S : SayL K mg) : mg "sorted" = none := S.free 47
theorem S_any (S : SayL K mg) : mg "any" = none := S.free 48
theorem S_isinstance (S : SayL K mg) : mg "isinstance" = none := S.free 49
theorem S_range (S : SayL K mg) : mg "range" = none := S.free 50
theorem S_enumerate (S : SayL K mg) : mg "enumerate" = none := S.free 51
theorem S_zip (S : SayL K mg) : mg "zip" = none := S.free 52
theorem S_super (S : SayL K mg) : mg "super" = none := S.free 53
theorem S_int (S : SayL K mg) : mg "int" = none := S.free 54
theorem S_list (S : SayL K mg) : mg "list" = none := S.free 55
theorem S_tuple (S : SayL K mg) : mg "tuple" = none := S.free 56
theorem S_dict (S : SayL K mg) : mg "dict" = none := S.free 57
theorem S_bool (S : SayL K mg) : mg "bool" = none := S.free 58
theorem S_ValueError (S : SayL K mg) : mg "ValueError" = none := S.free 59
theorem S_TypeError (S : SayL K mg) : mg "TypeError" = none := S.free 60
theorem C_Memory (S : SayL K mg) : Cls K (He.ga K "Memory") := He.cls_ok (S.c.fact 61)
theorem K_Memory (S : SayL K mg) : Mk K (He.ga K "Memory") (He.ma K (He.ga K "Memory") "__init__") := He.mkr_ok (S.c.fact 62)
theorem N_Memory_told (S : SayL K mg) : NoAttr K (He.ga K "Memory") "told" := He.noat_ok (S.c.fact 63)
theorem Me_Memory_init (S : SayL K mg) : Meth K (He.ga K "Memory") "__init__" (He.ma K (He.ga K "Memory") "__init__") := He.meth_ok (S.c.fact 64)
theorem Me_Memory_call (S : SayL K mg) : Meth K (He.ga K "Memory") "__call__" (He.ma K (He.ga K "Memory") "__call__") := He.meth_ok (S.c.fact 65)
theorem Me_Memory_len (S : SayL K mg) : Meth K (He.ga K "Memory") "__len__" (He.ma K (He.ga K "Memory") "__len__") := He.meth_ok (S.c.fact 66)
theorem Me_Memory_eq (S : SayL K mg) : Meth K (He.ga K "Memory") "__eq__" (He.ma K (He.ga K "Memory") "__eq__") := He.meth_ok (S.c.fact 67)
theorem C_Rig (S : SayL K mg) : Cls K (He.ga K "Rig") := He.cls_ok (S.c.fact 68)
theorem K_Rig (S : SayL K mg) : Mk K (He.ga K "Rig") (He.ma K (He.ga K "Rig") "__init__") := He.mkr_ok (S.c.fact 69)
theorem N_Rig_told (S : SayL K mg) : NoAttr K (He.ga K "Rig") "told" := He.noat_ok (S.c.fact 70)
theorem Me_Rig_init (S : SayL K mg) : Meth K (He.ga K "Rig") "__init__" (He.ma K (He.ga K "Rig") "__init__") := He.meth_ok (S.c.fact 71)
theorem Me_Rig_curve (S : SayL K mg) : Meth K (He.ga K "Rig") "curve" (He.ma K (He.ga K "Rig") "curve") := He.meth_ok (S.c.fact 72)
theorem Me_Rig_at (S : SayL K mg) : Meth K (He.ga K "Rig") "at" (He.ma K (He.ga K "Rig") "at") := He.meth_ok (S.c.fact 73)
theorem Me_Rig_add (S : SayL K mg) : Meth K (He.ga K "Rig") "__add__" (He.ma K (He.ga K "Rig") "__add__") := He.meth_ok (S.c.fact 74)
theorem Me_Rig_sub (S : SayL K mg) : Meth K (He.ga K "Rig") "__sub__" (He.ma K (He.ga K "Rig") "__sub__") := He.meth_ok (S.c.fact 75)
theorem Me_Rig_neg (S : SayL K mg) : Meth K (He.ga K "Rig") "__neg__" (He.ma K (He.ga K "Rig") "__neg__") := He.meth_ok (S.c.fact 76)
theorem Me_Rig_mul (S : SayL K mg) : Meth K (He.ga K "Rig") "__mul__" (He.ma K (He.ga K "Rig") "__mul__") := He.meth_ok (S.c.fact 77)
theorem Me_Rig_rshift (S : SayL K mg) : Meth K (He.ga K "Rig") "__rshift__" (He.ma K (He.ga K "Rig") "__rshift__") := He.meth_ok (S.c.fact 78)
theorem Me_Rig_call (S : SayL K mg) : Meth K (He.ga K "Rig") "__call__" (He.ma K (He.ga K "Rig") "__call__") := He.meth_ok (S.c.fact 79)
theorem Me_Rig_len (S : SayL K mg) : Meth K (He.ga K "Rig") "__len__" (He.ma K (He.ga K "Rig") "__len__") := He.meth_ok (S.c.fact 80)
theorem Me_Rig_getitem (S : SayL K mg) : Meth K (He.ga K "Rig") "__getitem__" (He.ma K (He.ga K "Rig") "__getitem__") := He.meth_ok (S.c.fact 81)
theorem Me_Rig_iter (S : SayL K mg) : Meth K (He.ga K "Rig") "__iter__" (He.ma K (He.ga K "Rig") "__iter__") := He.meth_ok (S.c.fact 82)
theorem Me_Rig_eq (S : SayL K mg) : Meth K (He.ga K "Rig") "__eq__" (He.ma K (He.ga K "Rig") "__eq__") := He.meth_ok (S.c.fact 83)
theorem X_ne_Memory (S : SayL K mg) : (neIn K (He.ga K "Memory") (He.ma K (He.ga K "Memory") "__eq__")) = true := (He.ba S.more).1
theorem X_nf_Memory (S : SayL K mg) : (PySem.W.notFirst K (He.ga K "Memory") (.type "tuple")) = true := (He.ba (He.ba S.more).2).1
theorem X_ca_Memory (S : SayL K mg) : (PySem.W.fnIn K (He.ma K (He.ga K "Memory") "__call__")) = true := (He.ba (He.ba (He.ba S.more).2).2).1
theorem X_is_Memory (S : SayL K mg) : (clsAt K (He.ga K "Memory")) = true := (He.ba (He.ba (He.ba (He.ba S.more).2).2).2).1
theorem X_ne_Rig (S : SayL K mg) : (neIn K (He.ga K "Rig") (He.ma K (He.ga K "Rig") "__eq__")) = true := (He.ba (He.ba (He.ba (He.ba (He.ba S.more).2).2).2).2).1
theorem X_nf_Rig (S : SayL K mg) : (PySem.W.notFirst K (He.ga K "Rig") (.type "tuple")) = true := (He.ba (He.ba (He.ba (He.ba (He.ba (He.ba S.more).2).2).2).2).2).1
theorem X_ca_Rig (S : SayL K mg) : (PySem.W.fnIn K (He.ma K (He.ga K "Rig") "__call__")) = true := (He.ba (He.ba (He.ba (He.ba (He.ba (He.ba (He.ba S.more).2).2).2).2).2).2).1
theorem X_is_Rig (S : SayL K mg) : (clsAt K (He.ga K "Rig")) = true := (He.ba (He.ba (He.ba (He.ba (He.ba (He.ba (He.ba (He.ba S.more).2).2).2).2).2).2).2).1
end
end Lw
namespace Lw
section
open PySem PySem.Spec PyProof.Rows L2 Sr
variable {P : Program} {w : World} {K : PySem.W.Frag} {mg : Str → Option Value} {base : Heap}
def StOk (st : List Int) : Prop := ∃ a b r, st = a :: b :: r ∧ 0 ≤ a ∧ 0 ≤ b ∧ ∀ x ∈ r, 0 ≤ x
theorem upd_self (H : Hp) (d : Addr) {o : HO} (h : H d = some o := by assumption) : upd H d o = H := by
  funext b; unfold upd; split
  · rename_i e; rw [e, h]
  · rfl
def BeMid (H : Hp) (d : Addr) (n : Int) (σ' : L2.St) (H' : Hp) : Prop := ∃ a b r, σ' = [some (.ref d), some (.int n), none] ∧ H' = upd H d (.lst ((a :: b :: r).map V.int)) ∧ 0 ≤ a ∧ 0 ≤ b ∧ ∀ x ∈ r, 0 ≤ x
def spBelow : Sp := fun vs H Q _ => ∃ (d : Addr) (st : List Int) (n : Int), vs = [.ref d, .int n] ∧ H d = some (.lst (st.map V.int)) ∧ StOk st ∧ 0 < n ∧ n < 1073741824 ∧ ∀ r st', 0 ≤ r → r < n → StOk st' → Q (.int r) (upd H d (.lst (st'.map V.int)))
theorem sc_L_below : FnScope ["_law_d", "_law_limit", "_law_result"] ["_law_d", "_law_limit"] (defScope s_L_below) := ⟨rfl, rfl, rfl, by decide +kernel, rfl, by decide +kernel, by decide +kernel⟩
theorem fn_L_below (S : SayL K mg) : Fn P w K mg base CX0 1 "_law_below" ["_law_d", "_law_limit"] spBelow := by
  refine fn_mk s_L_below S 40 39 rfl rfl sc_L_below (fun _ _ _ _ _ _ us hl => match us, hl with | [_, _], _ => rfl) (fun vs H Q E h => ?_) (fun f cdv A outer s H vs Q E hr h => ?_)
  · obtain ⟨_, _, _, rfl, _⟩ := h; rfl
  · have hr0 := hr
    have hu := hu_of hr
    refine ⟨_, (pss_cut (ps_if (PW.pt (pw_and (pt_cmpR op_eq (pe_ix ix_u (pv 0) pe_int (fun _ _ => rfl)) pe_int (nomark _)) (pw_and1 (pt_cmpR op_gt (pe_callB call_len_u (by rfl) (S_len S) (by decide +kernel) (pa_cons (pv 0) pa_nil)) pe_int (nomark _))))) (pss_one (ps_asg (pe_bmL PySem.F.slot_list_pop PySem.F.type_list_pop mt_popAt (pv 0) (pa_cons pe_int pa_nil)) (pg_sub (pv 0) pe_int set_list))) pss_nil)
      (pss_cons (ps_if (pt_cmpR op_gt (pe_ix ix_u (pv 0) pe_int (fun _ _ => rfl)) pe_int (nomark _)) (pss_cons (ps_set (i := 2) sc_L_below.nd rfl (by first | exact Or.inl rfl | exact Or.inr rfl) (pe_op op_mod (pe_callTy call_int1 (by rfl) (S_int S) (by decide +kernel) (pa_cons (pe_ix ix_u (pv 0) pe_int (fun _ _ => rfl)) pa_nil)) (pv 1)))
      (pss_cons (ps_asg (pe_op op_fdiv (pe_ix ix_u (pv 0) pe_int (fun _ _ => rfl)) (pv 1)) (pg_sub (pv 0) pe_int set_list))
      (pss_one (ps_ret (pv 2))))) pss_nil)
      (pss_cons (ps_asg (pe_op op_mod (pe_callTy call_int1 (by rfl) (S_int S) (by decide +kernel) (pa_cons (pe_op op_add (pe_op op_mul (pe_ix ix_u (pv 0) pe_int (fun _ _ => rfl)) pe_int) pe_int) pa_nil)) pe_int) (pg_sub (pv 0) pe_int set_list))
      (pss_one (ps_ret (pe_op op_mod (pe_callTy call_int1 (by rfl) (S_int S) (by decide +kernel) (pa_cons (pe_op op_fdiv (pe_ix ix_u (pv 0) pe_int (fun _ _ => rfl)) pe_int) pa_nil)) (pv 1))))))), ?_⟩
    obtain ⟨d, st, n, rfl, hd, ⟨a, b, r, rfl, ha, hb, hr'⟩, h0, h1, k⟩ := h
    have e1 : ∀ m : Nat, ixN (m + 1 + 1) 1 = some 1 := fun m => by unfold ixN; rw [if_pos (by omega), if_pos (by omega)]; rfl
    have e0 : ∀ m : Nat, ixN (m + 1 + 1) 0 = some 0 := fun m => by unfold ixN; rw [if_pos (by omega), if_pos (by omega)]; rfl
    have e2 : ∀ m : Nat, seqIndex? 2 (m + 1 + 1 + 1) = some 2 := fun m => by unfold seqIndex?; simp; omega
    simp only [L2.start, List.map_cons, List.map_nil, List.length_cons, List.length_nil, List.replicate, Nat.reduceAdd, Nat.reduceSub, List.cons_append, List.nil_append]
    refine ⟨BeMid H d n, ?_, ?_⟩
    · rw [tIfS_ap]
      simp only [tOp, tUn, tVar, tC, tAnd, tOr, tNot, tTest, tB, tCB, tCons, tNil, tBM, tBM0, tBML, tBML0, tAndV, tOrV, tNotV, tIf, tIfT, tChain, tPart, tNoPart, tSl, tTup, tLst, tYes, tIsN, tNotN, tCall, StX.tStar, rI, rI0, rU, rIxU, rLenU, rListU, rTupU, rSlLU, rIsK, kdOf, isK, rEq, rNe, rAppend, rExtend, rPopG, List.getLast?_map, List.getLast?_reverse, List.head?_cons, dropLast_rev, rPopAt, rSetL, rCat, gSub, gName, ipI, scal_int, scal_bl, scal_str, CMul, CDiv, CPow, List.getElem?_cons_succ, List.getElem?_cons_zero, List.set_cons_succ, List.set_cons_zero, List.append_nil, Option.some.injEq, V.int.injEq, V.bl.injEq, V.ref.injEq, V.str.injEq, HO.lst.injEq, HO.tup.injEq, List.cons.injEq, List.cons_ne_nil, and_true, true_and, exists_eq_left, exists_eq_left', exists_and_left, exists_eq', exists_eq, exists_const, reduceCtorEq, false_or, or_false, false_and, and_false, exists_false, seqH, List.length_cons, List.length_nil, List.length_map, List.length_reverse, cx_K, atI_tr1, atI_tr2, cutV_tr2, Option.map_some, upd_same, upd_upd, hd, List.map_cons, atI_one, decide_eq_true_eq]
      by_cases hb0 : b = 0
      · rw [if_pos hb0]
        cases r with
        | nil =>
          rw [if_neg (by simp), tNext_ap]
          exact ⟨a, b, [], rfl, (upd_self H d).symm, ha, hb, hr'⟩
        | cons c r =>
          have hc := hr' c (by simp)
          rw [if_pos (by simp; omega), tAsg_ap]
          simp only [tOp, tUn, tVar, tC, tAnd, tOr, tNot, tTest, tB, tCB, tCons, tNil, tBM, tBM0, tBML, tBML0, tAndV, tOrV, tNotV, tIf, tIfT, tChain, tPart, tNoPart, tSl, tTup, tLst, tYes, tIsN, tNotN, tCall, StX.tStar, rI, rI0, rU, rIxU, rLenU, rListU, rTupU, rSlLU, rIsK, kdOf, isK, rEq, rNe, rAppend, rExtend, rPopG, List.getLast?_map, List.getLast?_reverse, List.head?_cons, dropLast_rev, rPopAt, rSetL, rCat, gSub, gName, ipI, scal_int, scal_bl, scal_str, CMul, CDiv, CPow, List.getElem?_cons_succ, List.getElem?_cons_zero, List.set_cons_succ, List.set_cons_zero, List.append_nil, Option.some.injEq, V.int.injEq, V.bl.injEq, V.ref.injEq, V.str.injEq, HO.lst.injEq, HO.tup.injEq, List.cons.injEq, List.cons_ne_nil, and_true, true_and, exists_eq_left, exists_eq_left', exists_and_left, exists_eq', exists_eq, exists_const, reduceCtorEq, false_or, or_false, false_and, and_false, exists_false, seqH, List.length_cons, List.length_nil, List.length_map, List.length_reverse, cx_K, atI_tr1, atI_tr2, cutV_tr2, Option.map_some, upd_same, upd_upd, hd, List.map_cons, e1, e2, List.eraseIdx_cons_succ, List.eraseIdx_cons_zero]
          exact ⟨by decide, by decide, a, c, r, rfl, rfl, ha, hc, fun x hx => hr' x (by simp [hx])⟩
      · rw [if_neg hb0, if_neg id, tNext_ap]
        exact ⟨a, b, r, rfl, (upd_self H d).symm, ha, hb, hr'⟩
    · clear hd hr' ha hb a b r
      rintro σ' H' ⟨a, b, r, rfl, rfl, ha, hb, hr'⟩
      rw [tSeq_ap, tIfS_ap]
      simp only [tOp, tUn, tVar, tC, tAnd, tOr, tNot, tTest, tB, tCB, tCons, tNil, tBM, tBM0, tBML, tBML0, tAndV, tOrV, tNotV, tIf, tIfT, tChain, tPart, tNoPart, tSl, tTup, tLst, tYes, tIsN, tNotN, tCall, StX.tStar, rI, rI0, rU, rIxU, rLenU, rListU, rTupU, rSlLU, rIsK, kdOf, isK, rEq, rNe, rAppend, rExtend, rPopG, List.getLast?_map, List.getLast?_reverse, List.head?_cons, dropLast_rev, rPopAt, rSetL, rCat, gSub, gName, ipI, scal_int, scal_bl, scal_str, CMul, CDiv, CPow, List.getElem?_cons_succ, List.getElem?_cons_zero, List.set_cons_succ, List.set_cons_zero, List.append_nil, Option.some.injEq, V.int.injEq, V.bl.injEq, V.ref.injEq, V.str.injEq, HO.lst.injEq, HO.tup.injEq, List.cons.injEq, List.cons_ne_nil, and_true, true_and, exists_eq_left, exists_eq_left', exists_and_left, exists_eq', exists_eq, exists_const, reduceCtorEq, false_or, or_false, false_and, and_false, exists_false, seqH, List.length_cons, List.length_nil, List.length_map, List.length_reverse, cx_K, atI_tr1, atI_tr2, cutV_tr2, Option.map_some, upd_same, upd_upd, List.map_cons, atI_one, decide_eq_true_eq]
      split
      · rw [tSeq_ap, tAsg_ap]
        simp only [tOp, tUn, tVar, tC, tAnd, tOr, tNot, tTest, tB, tCB, tCons, tNil, tBM, tBM0, tBML, tBML0, tAndV, tOrV, tNotV, tIf, tIfT, tChain, tPart, tNoPart, tSl, tTup, tLst, tYes, tIsN, tNotN, tCall, StX.tStar, rI, rI0, rU, rIxU, rLenU, rListU, rTupU, rSlLU, rIsK, kdOf, isK, rEq, rNe, rAppend, rExtend, rPopG, List.getLast?_map, List.getLast?_reverse, List.head?_cons, dropLast_rev, rPopAt, rSetL, rCat, gSub, gName, ipI, scal_int, scal_bl, scal_str, CMul, CDiv, CPow, List.getElem?_cons_succ, List.getElem?_cons_zero, List.set_cons_succ, List.set_cons_zero, List.append_nil, Option.some.injEq, V.int.injEq, V.bl.injEq, V.ref.injEq, V.str.injEq, HO.lst.injEq, HO.tup.injEq, List.cons.injEq, List.cons_ne_nil, and_true, true_and, exists_eq_left, exists_eq_left', exists_and_left, exists_eq', exists_eq, exists_const, reduceCtorEq, false_or, or_false, false_and, and_false, exists_false, seqH, List.length_cons, List.length_nil, List.length_map, List.length_reverse, cx_K, atI_tr1, atI_tr2, cutV_tr2, Option.map_some, upd_same, upd_upd, List.map_cons, atI_one]
        refine ⟨h0, ?_⟩
        rw [tSeq_ap, tAsg_ap]
        simp only [tOp, tUn, tVar, tC, tAnd, tOr, tNot, tTest, tB, tCB, tCons, tNil, tBM, tBM0, tBML, tBML0, tAndV, tOrV, tNotV, tIf, tIfT, tChain, tPart, tNoPart, tSl, tTup, tLst, tYes, tIsN, tNotN, tCall, StX.tStar, rI, rI0, rU, rIxU, rLenU, rListU, rTupU, rSlLU, rIsK, kdOf, isK, rEq, rNe, rAppend, rExtend, rPopG, List.getLast?_map, List.getLast?_reverse, List.head?_cons, dropLast_rev, rPopAt, rSetL, rCat, gSub, gName, ipI, scal_int, scal_bl, scal_str, CMul, CDiv, CPow, List.getElem?_cons_succ, List.getElem?_cons_zero, List.set_cons_succ, List.set_cons_zero, List.append_nil, Option.some.injEq, V.int.injEq, V.bl.injEq, V.ref.injEq, V.str.injEq, HO.lst.injEq, HO.tup.injEq, List.cons.injEq, List.cons_ne_nil, and_true, true_and, exists_eq_left, exists_eq_left', exists_and_left, exists_eq', exists_eq, exists_const, reduceCtorEq, false_or, or_false, false_and, and_false, exists_false, seqH, List.length_cons, List.length_nil, List.length_map, List.length_reverse, cx_K, atI_tr1, atI_tr2, cutV_tr2, Option.map_some, upd_same, upd_upd, List.map_cons, atI_one, e1]
        refine ⟨⟨h0, h1⟩, ?_⟩
        rw [tRet_ap]
        simp only [tOp, tUn, tVar, tC, tAnd, tOr, tNot, tTest, tB, tCB, tCons, tNil, tBM, tBM0, tBML, tBML0, tAndV, tOrV, tNotV, tIf, tIfT, tChain, tPart, tNoPart, tSl, tTup, tLst, tYes, tIsN, tNotN, tCall, StX.tStar, rI, rI0, rU, rIxU, rLenU, rListU, rTupU, rSlLU, rIsK, kdOf, isK, rEq, rNe, rAppend, rExtend, rPopG, List.getLast?_map, List.getLast?_reverse, List.head?_cons, dropLast_rev, rPopAt, rSetL, rCat, gSub, gName, ipI, scal_int, scal_bl, scal_str, CMul, CDiv, CPow, List.getElem?_cons_succ, List.getElem?_cons_zero, List.set_cons_succ, List.set_cons_zero, List.append_nil, Option.some.injEq, V.int.injEq, V.bl.injEq, V.ref.injEq, V.str.injEq, HO.lst.injEq, HO.tup.injEq, List.cons.injEq, List.cons_ne_nil, and_true, true_and, exists_eq_left, exists_eq_left', exists_and_left, exists_eq', exists_eq, exists_const, reduceCtorEq, false_or, or_false, false_and, and_false, exists_false, seqH, List.length_cons, List.length_nil, List.length_map, List.length_reverse, cx_K, atI_tr1, atI_tr2, cutV_tr2, Option.map_some, upd_same, upd_upd]
        exact k (b % n) (a :: (b / n) :: r) (Int.emod_nonneg _ (by omega)) (Int.emod_lt_of_pos _ h0) ⟨_, _, _, rfl, ha, Int.ediv_nonneg hb (by omega), hr'⟩
      · rw [tNext_ap]
        dsimp only
        rw [tSeq_ap, tAsg_ap]
        simp only [tOp, tUn, tVar, tC, tAnd, tOr, tNot, tTest, tB, tCB, tCons, tNil, tBM, tBM0, tBML, tBML0, tAndV, tOrV, tNotV, tIf, tIfT, tChain, tPart, tNoPart, tSl, tTup, tLst, tYes, tIsN, tNotN, tCall, StX.tStar, rI, rI0, rU, rIxU, rLenU, rListU, rTupU, rSlLU, rIsK, kdOf, isK, rEq, rNe, rAppend, rExtend, rPopG, List.getLast?_map, List.getLast?_reverse, List.head?_cons, dropLast_rev, rPopAt, rSetL, rCat, gSub, gName, ipI, scal_int, scal_bl, scal_str, CMul, CDiv, CPow, List.getElem?_cons_succ, List.getElem?_cons_zero, List.set_cons_succ, List.set_cons_zero, List.append_nil, Option.some.injEq, V.int.injEq, V.bl.injEq, V.ref.injEq, V.str.injEq, HO.lst.injEq, HO.tup.injEq, List.cons.injEq, List.cons_ne_nil, and_true, true_and, exists_eq_left, exists_eq_left', exists_and_left, exists_eq', exists_eq, exists_const, reduceCtorEq, false_or, or_false, false_and, and_false, exists_false, seqH, List.length_cons, List.length_nil, List.length_map, List.length_reverse, cx_K, atI_tr1, atI_tr2, cutV_tr2, Option.map_some, upd_same, upd_upd, List.map_cons, atI_zero, e0]
        refine ⟨.inr ⟨by decide, by decide⟩, by decide, ?_⟩
        rw [tRet_ap]
        simp only [tOp, tUn, tVar, tC, tAnd, tOr, tNot, tTest, tB, tCB, tCons, tNil, tBM, tBM0, tBML, tBML0, tAndV, tOrV, tNotV, tIf, tIfT, tChain, tPart, tNoPart, tSl, tTup, tLst, tYes, tIsN, tNotN, tCall, StX.tStar, rI, rI0, rU, rIxU, rLenU, rListU, rTupU, rSlLU, rIsK, kdOf, isK, rEq, rNe, rAppend, rExtend, rPopG, List.getLast?_map, List.getLast?_reverse, List.head?_cons, dropLast_rev, rPopAt, rSetL, rCat, gSub, gName, ipI, scal_int, scal_bl, scal_str, CMul, CDiv, CPow, List.getElem?_cons_succ, List.getElem?_cons_zero, List.set_cons_succ, List.set_cons_zero, List.append_nil, Option.some.injEq, V.int.injEq, V.bl.injEq, V.ref.injEq, V.str.injEq, HO.lst.injEq, HO.tup.injEq, List.cons.injEq, List.cons_ne_nil, and_true, true_and, exists_eq_left, exists_eq_left', exists_and_left, exists_eq', exists_eq, exists_const, reduceCtorEq, false_or, or_false, false_and, and_false, exists_false, seqH, List.length_cons, List.length_nil, List.length_map, List.length_reverse, cx_K, atI_tr1, atI_tr2, cutV_tr2, Option.map_some, upd_same, upd_upd, List.map_cons, atI_zero]
        exact ⟨⟨by decide, by decide⟩, h0, k _ (_ :: b :: r) (Int.emod_nonneg _ (by omega)) (Int.emod_lt_of_pos _ h0) ⟨_, _, _, rfl, Int.emod_nonneg _ (by decide), hb, hr'⟩⟩
def spIsInt : Sp := fun vs H Q _ => ∃ v k, vs = [v] ∧ kdOf v H = some k ∧ Q (.bl (decide (k = .int))) H
theorem sc_is_int : FnScope ["value"] ["value"] (defScope s_is_int) := ⟨rfl, rfl, rfl, by decide +kernel, rfl, by decide +kernel, by decide +kernel⟩
theorem fn_is_int (S : SayL K mg) : Fn P w K mg base CX0 1 "is_int" ["value"] spIsInt := by
  refine fn_mk s_is_int S 1 11 rfl rfl sc_is_int (fun _ _ _ _ _ _ us hl => match us, hl with | [_], _ => rfl) (fun vs H Q E h => ?_) (fun f cdv A outer s H vs Q E hr h => ?_)
  · obtain ⟨_, _, rfl, _⟩ := h; rfl
  · have hr0 := hr
    have hu := hu_of hr
    refine ⟨_, (pss_one (ps_ret (pe_and (pe_callB (call_isK Kd.int (by decide)) (by rfl) (S_isinstance S) (by decide +kernel) (pa_cons (pv 0) (pa_cons (pe_bltn (v := .ty "int") rfl (S_int S) (by decide +kernel) rfl) pa_nil))) (pe_one (pe_not (pe_callB (call_isK Kd.bl (by decide)) (by rfl) (S_isinstance S) (by decide +kernel) (pa_cons (pv 0) (pa_cons (pe_bltn (v := .ty "bool") rfl (S_bool S) (by decide +kernel) rfl) pa_nil)))))))), ?_⟩
    obtain ⟨v, k, rfl, hk, q⟩ := h
    simp only [L2.start, List.map_cons, List.map_nil, List.length_cons, List.length_nil, List.replicate, Nat.reduceAdd, Nat.reduceSub, List.cons_append, List.nil_append, tRet_ap, tAndV, tCB, tCons, tNil, tVar, tC, rIsK, tNotV, List.getElem?_cons_zero, Option.some.injEq, exists_eq_left']
    refine ⟨_, _, rfl, hk, _, rfl, ?_⟩
    cases k <;> first | exact q | exact ⟨_, _, rfl, hk, _, rfl, q⟩
def inR : V → Int → Int → Bool
  | .int i, lo, hi => decide (lo ≤ i) && decide (i ≤ hi)
  | _, _, _ => false
def spIsIntIn : Sp := fun vs H Q _ => ∃ v lo hi, vs = [v, .int lo, .int hi] ∧ (kdOf v H).isSome = true ∧ Q (.bl (inR v lo hi)) H
theorem sc_is_int_in : FnScope ["value", "low", "high"] ["value", "low", "high"] (defScope s_is_int_in) := ⟨rfl, rfl, rfl, by decide +kernel, rfl, by decide +kernel, by decide +kernel⟩
theorem fn_is_int_in (S : SayL K mg) : Fn P w K mg base CX0 3 "is_int_in" ["value", "low", "high"] spIsIntIn := by
  have F_is_int := fn_is_int (P := P) (w := w) (base := base) S
  refine fn_mk s_is_int_in S 2 12 rfl rfl sc_is_int_in (fun _ _ _ _ _ _ us hl => match us, hl with | [_, _, _], _ => rfl) (fun vs H Q E h => ?_) (fun f cdv A outer s H vs Q E hr h => ?_)
  · obtain ⟨_, _, _, rfl, _⟩ := h; rfl
  · have hr0 := hr
    have hu := hu_of hr
    have hr_is_int : Room 1 _ := hr.mono (by decide)
    have hr1_is_int : Room 2 _ := hr.mono (by decide)
    refine ⟨_, (pss_one (ps_ret (pe_and (pe_fn F_is_int hr_is_int pass0 (pa_cons (pv 0) pa_nil)) (pe_one (pe_chain op_le op_le (pv 1) (pv 0) (pv 2)))))), ?_⟩
    obtain ⟨v, lo, hi, rfl, hk, q⟩ := h
    obtain ⟨k, hk⟩ := Option.isSome_iff_exists.mp hk
    simp only [L2.start, List.map_cons, List.map_nil, List.length_cons, List.length_nil, List.replicate, Nat.reduceAdd, Nat.reduceSub, List.cons_append, List.nil_append, tRet_ap, tAndV, tCall, tCons, tNil, tVar, tChain, List.getElem?_cons_zero, List.getElem?_cons_succ, Option.some.injEq, exists_eq_left', List.append_nil]
    refine ⟨v, k, rfl, hk, _, rfl, ?_⟩
    cases v with
    | int i =>
      cases hk
      rw [if_pos (by decide)]
      refine ⟨_, _, rfl, rfl, _, rfl, ?_⟩
      by_cases c : lo ≤ i
      · rw [if_pos (by simpa using c)]
        refine ⟨_, _, rfl, rfl, ?_⟩
        have e : inR (.int i) lo hi = decide (i ≤ hi) := by simp [inR, c]
        show Q (.bl (decide (i ≤ hi))) H
        rw [← e]; exact q
      · rw [if_neg (by simpa using c)]
        have e : inR (.int i) lo hi = false := by simp [inR, c]
        rw [← e]; exact q
    | bl b => cases hk; rw [if_neg (by decide)]; exact q
    | str b => cases hk; rw [if_neg (by decide)]; exact q
    | non => cases hk; rw [if_neg (by decide)]; exact q
    | ref b =>
      have : k ≠ .int := by
        intro z; subst z
        unfold kdOf at hk
        dsimp only at hk
        split at hk <;> cases hk
      rw [if_neg (by simpa using this)]; exact q
    | byt b => cases hk
    | flt b => cases hk
    | ty b => cases hk
def isPl (v : V) : Bool := inR v (-1000000) 1000000
def spIsPlace : Sp := fun vs H Q _ => ∃ v, vs = [v] ∧ (kdOf v H).isSome = true ∧ Q (.bl (isPl v)) H
theorem sc_is_place : FnScope ["value"] ["value"] (defScope s_is_place) := ⟨rfl, rfl, rfl, by decide +kernel, rfl, by decide +kernel, by decide +kernel⟩
theorem fn_is_place (S : SayL K mg) : Fn P w K mg base CX0 5 "is_place" ["value"] spIsPlace := by
  have F_is_int_in := fn_is_int_in (P := P) (w := w) (base := base) S
  refine fn_mk s_is_place S 3 13 rfl rfl sc_is_place (fun _ _ _ _ _ _ us hl => match us, hl with | [_], _ => rfl) (fun vs H Q E h => ?_) (fun f cdv A outer s H vs Q E hr h => ?_)
  · obtain ⟨_, rfl, _⟩ := h; rfl
  · have hr0 := hr
    have hu := hu_of hr
    have hr_is_int_in : Room 3 _ := hr.mono (by decide)
    have hr1_is_int_in : Room 4 _ := hr.mono (by decide)
    refine ⟨_, (pss_one (ps_ret (pe_fn F_is_int_in hr_is_int_in pass0 (pa_cons (pv 0) (pa_cons (pe_un un_neg (pe_gint (S_FAR S))) (pa_cons (pe_gint (S_FAR S)) pa_nil)))))), ?_⟩
    obtain ⟨v, rfl, hk, q⟩ := h
    simp only [L2.start, List.map_cons, List.map_nil, List.length_cons, List.length_nil, List.replicate, Nat.reduceAdd, Nat.reduceSub, List.cons_append, List.nil_append, tRet_ap, tOp, tUn, tVar, tC, tAnd, tOr, tNot, tTest, tB, tCB, tCons, tNil, tBM, tBM0, tBML, tBML0, tAndV, tOrV, tNotV, tIf, tIfT, tChain, tPart, tNoPart, tSl, tTup, tLst, tYes, tIsN, tNotN, tCall, StX.tStar, rI, rI0, rU, rIxU, rLenU, rListU, rTupU, rSlLU, rIsK, kdOf, isK, rEq, rNe, rAppend, rExtend, rPopG, List.getLast?_map, List.getLast?_reverse, List.head?_cons, dropLast_rev, rPopAt, rSetL, rCat, gSub, gName, ipI, scal_int, scal_bl, scal_str, CMul, CDiv, CPow, List.getElem?_cons_succ, List.getElem?_cons_zero, List.set_cons_succ, List.set_cons_zero, List.append_nil, Option.some.injEq, V.int.injEq, V.bl.injEq, V.ref.injEq, V.str.injEq, HO.lst.injEq, HO.tup.injEq, List.cons.injEq, List.cons_ne_nil, and_true, true_and, exists_eq_left, exists_eq_left', exists_and_left, exists_eq', exists_eq, exists_const, reduceCtorEq, false_or, or_false, false_and, and_false, exists_false, seqH, List.length_cons, List.length_nil, List.length_map, List.length_reverse, cx_K, atI_tr1, atI_tr2, cutV_tr2, Option.map_some, upd_same, upd_upd]
    exact ⟨v, -1000000, 1000000, rfl, hk, q⟩
def spCheckPlace : Sp := fun vs H Q _ => ∃ i : Int, vs = [.int i] ∧ -1000000 ≤ i ∧ i ≤ 1000000 ∧ Q .non H
def RowOk (ns : List Int) : Prop := ns.length ≤ 1000 ∧ ∀ n ∈ ns, -1000000 ≤ n ∧ n ≤ 1000000
def spCheckRow : Sp := fun vs H Q _ => ∃ (a : Addr) (ns : List Int), vs = [.ref a] ∧ H a = some (.lst (ns.map V.int)) ∧ RowOk ns ∧ ∀ H', Same H H' → Q .non H'
theorem sc_check_row : FnScope ["row", "index", "place"] ["row"] (defScope s_check_row) := ⟨rfl, rfl, rfl, by decide +kernel, rfl, by decide +kernel, by decide +kernel⟩
theorem fn_check_row (S : SayL K mg) : Fn P w K mg base CX0 7 "check_row" ["row"] spCheckRow := by
  have F_is_place := fn_is_place (P := P) (w := w) (base := base) S
  refine fn_mk s_check_row S 5 15 rfl rfl sc_check_row (fun _ _ _ _ _ _ us hl => match us, hl with | [_], _ => rfl) (fun vs H Q E h => ?_) (fun f cdv A outer s H vs Q E hr h => ?_)
  · obtain ⟨_, _, rfl, _⟩ := h; rfl
  · have hr0 := hr
    have hu := hu_of hr
    have hr_is_place : Room 5 _ := hr.mono (by decide)
    have hr1_is_place : Room 6 _ := hr.mono (by decide)
    refine ⟨_, (pss_cons (ps_if (pt_not (pt_val (pe_callB (call_isK Kd.lst (by decide)) (by rfl) (S_isinstance S) (by decide +kernel) (pa_cons (pv 0) (pa_cons (pe_bltn (v := .ty "list") rfl (S_list S) (by decide +kernel) rfl) pa_nil))))) (pss_one ps_never) pss_nil)
      (pss_one (ps_for PassesOwn.never rfl (pi_enum (by rfl) (S_enumerate S) (pa_cons (pv 0) pa_nil)) (pg_tup rfl (pgs_cons (pg_name (i := 1) sc_check_row.nd rfl (by first | exact Or.inl rfl | exact Or.inr rfl)) (pgs_cons (pg_name (i := 2) sc_check_row.nd rfl (by first | exact Or.inl rfl | exact Or.inr rfl)) pgs_nil))) (pss_one (ps_if (PW.pt (pw_or (pt_cmpR op_eq (pv 1) (pe_gint (S_MAX_ROW S)) (nomark _)) (pw_or1 (pt_not (pt_val (pe_fn F_is_place hr_is_place pass0 (pa_cons (pv 2) pa_nil))))))) (pss_one ps_never) pss_nil))))), ?_⟩
    obtain ⟨a, ns, rfl, ha, ⟨hl, hn⟩, q⟩ := h
    simp only [L2.start, List.map_cons, List.map_nil, List.length_cons, List.length_nil, List.replicate, Nat.reduceAdd, Nat.reduceSub, List.cons_append, List.nil_append, tSeq_ap, tAsg_ap, tDrop_ap, tNext_ap, tPar_ap, tPar3_ap, tAug_ap, tOp, tUn, tVar, tC, tAnd, tOr, tNot, tTest, tB, tCB, tCons, tNil, tBM, tBM0, tBML, tBML0, tAndV, tOrV, tNotV, tIf, tIfT, tChain, tPart, tNoPart, tSl, tTup, tLst, tYes, tIsN, tNotN, tCall, StX.tStar, rI, rI0, rU, rIxU, rLenU, rListU, rTupU, rSlLU, rIsK, kdOf, isK, rEq, rNe, rAppend, rExtend, rPopG, List.getLast?_map, List.getLast?_reverse, List.head?_cons, dropLast_rev, rPopAt, rSetL, rCat, gSub, gName, ipI, scal_int, scal_bl, scal_str, CMul, CDiv, CPow, List.getElem?_cons_succ, List.getElem?_cons_zero, List.set_cons_succ, List.set_cons_zero, List.append_nil, Option.some.injEq, V.int.injEq, V.bl.injEq, V.ref.injEq, V.str.injEq, HO.lst.injEq, HO.tup.injEq, List.cons.injEq, List.cons_ne_nil, and_true, true_and, exists_eq_left, exists_eq_left', exists_and_left, exists_eq', exists_eq, exists_const, reduceCtorEq, false_or, or_false, false_and, and_false, exists_false, seqH, List.length_cons, List.length_nil, List.length_map, List.length_reverse, cx_K, atI_tr1, atI_tr2, cutV_tr2, Option.map_some, upd_same, upd_upd, tIfS_ap, ha, Bool.not_true, Bool.false_eq_true, if_false, Kd.name]
    refine ⟨_, rfl, a, _, rfl, SqL.of ha, for_it walk_enum (fun i σ' H' => Same H H' ∧ ∃ u v, σ' = [some (.ref a), u, v]) ⟨.refl H, _, _, rfl⟩ (fun i σ' H' _ p => SqL.of (p.1 _ _ ha)) ?_ (fun σ' H' p => q H' p.1)⟩
    rintro i x σ' H' H2 hi ⟨e, u, v, rfl⟩ ⟨T, x1, x2, rfl, hT, rfl, hx1, hx2⟩
    cases hx1
    dsimp only at hx2
    rw [List.getElem?_map] at hx2
    rw [List.length_map] at hi
    rw [List.getElem?_eq_getElem hi] at hx2
    cases hx2
    have hp := hn ns[i] (List.getElem_mem hi)
    have e2 : Same H (upd H' T (.tup [.int (i : Nat), .int ns[i]])) := e.new hT
    have ep : isPl (.int ns[i]) = true := by simp [isPl, inR, hp]
    refine ⟨T, _, rfl, SqT.of upd_same, rfl, _, _, rfl, _, _, rfl, rfl, ?_⟩
    simp only [tSeq_ap, tAsg_ap, tDrop_ap, tNext_ap, tPar_ap, tPar3_ap, tAug_ap, tOp, tUn, tVar, tC, tAnd, tOr, tNot, tTest, tB, tCB, tCons, tNil, tBM, tBM0, tBML, tBML0, tAndV, tOrV, tNotV, tIf, tIfT, tChain, tPart, tNoPart, tSl, tTup, tLst, tYes, tIsN, tNotN, tCall, StX.tStar, rI, rI0, rU, rIxU, rLenU, rListU, rTupU, rSlLU, rIsK, kdOf, isK, rEq, rNe, rAppend, rExtend, rPopG, List.getLast?_map, List.getLast?_reverse, List.head?_cons, dropLast_rev, rPopAt, rSetL, rCat, gSub, gName, ipI, scal_int, scal_bl, scal_str, CMul, CDiv, CPow, List.getElem?_cons_succ, List.getElem?_cons_zero, List.set_cons_succ, List.set_cons_zero, List.append_nil, Option.some.injEq, V.int.injEq, V.bl.injEq, V.ref.injEq, V.str.injEq, HO.lst.injEq, HO.tup.injEq, List.cons.injEq, List.cons_ne_nil, and_true, true_and, exists_eq_left, exists_eq_left', exists_and_left, exists_eq', exists_eq, exists_const, reduceCtorEq, false_or, or_false, false_and, and_false, exists_false, seqH, List.length_cons, List.length_nil, List.length_map, List.length_reverse, cx_K, atI_tr1, atI_tr2, cutV_tr2, Option.map_some, upd_same, upd_upd, tIfS_ap]
    have hi2 : ¬ ((i : Int) = 1000) := by omega
    simp only [hi2, decide_false, Bool.false_eq_true, if_false]
    refine ⟨_, rfl, rfl, ?_⟩
    simp only [ep, tOp, tUn, tVar, tC, tAnd, tOr, tNot, tTest, tB, tCB, tCons, tNil, tBM, tBM0, tBML, tBML0, tAndV, tOrV, tNotV, tIf, tIfT, tChain, tPart, tNoPart, tSl, tTup, tLst, tYes, tIsN, tNotN, tCall, StX.tStar, rI, rI0, rU, rIxU, rLenU, rListU, rTupU, rSlLU, rIsK, kdOf, isK, rEq, rNe, rAppend, rExtend, rPopG, List.getLast?_map, List.getLast?_reverse, List.head?_cons, dropLast_rev, rPopAt, rSetL, rCat, gSub, gName, ipI, scal_int, scal_bl, scal_str, CMul, CDiv, CPow, List.getElem?_cons_succ, List.getElem?_cons_zero, List.set_cons_succ, List.set_cons_zero, List.append_nil, Option.some.injEq, V.int.injEq, V.bl.injEq, V.ref.injEq, V.str.injEq, HO.lst.injEq, HO.tup.injEq, List.cons.injEq, List.cons_ne_nil, and_true, true_and, exists_eq_left, exists_eq_left', exists_and_left, exists_eq', exists_eq, exists_const, reduceCtorEq, false_or, or_false, false_and, and_false, exists_false, seqH, List.length_cons, List.length_nil, List.length_map, List.length_reverse, cx_K, atI_tr1, atI_tr2, cutV_tr2, Option.map_some, upd_same, upd_upd, Bool.not_true, Bool.false_eq_true, if_false]
    exact e2
/-- the places of a memory, last first -/
def TupR (H : Hp) (p : Addr) (rs : List Int) : Prop := H p = some (.tup (rs.reverse.map V.int))
def MvMid (H : Hp) (a q l : Addr) (p z : Int) (r : List Int) (σ' : L2.St) (H' : Hp) : Prop := ∃ fd : List Int, σ' = [some (.ref a), some (.int p), some (.ref q), some (.ref l), some (.bl (decide (z < p)))] ∧ Same H H' ∧ H' q = some (.lst (fd.reverse.map V.int)) ∧ H' l = some (.lst []) ∧ fd.length ≤ 100000 ∧
        Mt.movedR (z :: r) p = (p :: (Mt.shrink (decide (z < p)) p fd []).1, (Mt.shrink (decide (z < p)) p fd []).2)
def MvW (H : Hp) (a l : Addr) (p z : Int) (r : List Int) (m : Nat) (σ' : L2.St) (H' : Hp) : Prop := ∃ (fd hs : List Int) (q : Addr), σ' = [some (.ref a), some (.int p), some (.ref q), some (.ref l), some (.bl (decide (z < p)))] ∧ Same H H' ∧ H q = none ∧ q ≠ l ∧ H' q = some (.lst (fd.reverse.map V.int)) ∧ H' l = some (.lst (hs.map V.int)) ∧ fd.length + hs.length ≤ 100000 ∧ m = fd.length ∧
        Mt.movedR (z :: r) p = (p :: (Mt.shrink (decide (z < p)) p fd hs).1, (Mt.shrink (decide (z < p)) p fd hs).2)
def spMoved : Sp := fun vs H Q _ => ∃ (a : Addr) (rs : List Int) (p : Int), vs = [.ref a, .int p] ∧ TupR H a rs ∧ rs ≠ [] ∧ rs.length ≤ 100000 ∧
  ∀ t b l H', Same H H' → H l = none → H' t = some (.tup [.ref b, .ref l]) → TupR H' b (Mt.movedR rs p).1 → H' l = some (.lst ((Mt.movedR rs p).2.map V.int)) → Q (.ref t) H'
theorem sc_moved : FnScope ["places", "place", "found", "heights", "is_up"] ["places", "place"] (defScope s_moved) := ⟨rfl, rfl, rfl, by decide +kernel, rfl, by decide +kernel, by decide +kernel⟩
theorem fn_moved (S : SayL K mg) : Fn P w K mg base CX0 1 "moved" ["places", "place"] spMoved := by
  refine fn_mk s_moved S 7 17 rfl rfl sc_moved (fun _ _ _ _ _ _ us hl => match us, hl with | [_, _], _ => rfl) (fun vs H Q E h => ?_) (fun f cdv A outer s H vs Q E hr h => ?_)
  · obtain ⟨_, _, _, rfl, _⟩ := h; rfl
  · have hr0 := hr
    have hu := hu_of hr
    refine ⟨_, (pss_cons (ps_if (pt_cmpR op_eq (pv 1) (pe_ix ix_u (pv 0) (pe_un un_neg pe_int) (fun _ _ => rfl)) (nomark _)) (pss_one (ps_ret (pe_tup (pa_cons (pv 0) (pa_cons (pe_lst pa_nil) pa_nil))))) pss_nil)
      (pss_cons (ps_par3 (i := 2) (j := 3) (l := 4) (by rfl) sc_moved.nd rfl rfl rfl (by decide) (by decide) (by decide) rfl rfl rfl (pa_cons (pe_callTy call_list_u (by rfl) (S_list S) (by decide +kernel) (pa_cons (pv 0) pa_nil)) (pa_cons (pe_lst pa_nil) (pa_cons (pe_cmpR op_gt (pv 1) (pe_ix ix_u (pv 0) (pe_un un_neg pe_int) (fun _ _ => rfl)) (nomark _)) pa_nil))) (by rfl))
      (pss_cut (ps_if (pt_cmpR op_eq (pv 4) (pe_cmpR op_eq (pe_op op_mod (pe_callB call_len_u (by rfl) (S_len S) (by decide +kernel) (pa_cons (pv 2) pa_nil)) pe_int) pe_int (nomark _)) (nomark _)) (pss_one (ps_expr (pe_bmL0 PySem.F.slot_list_pop PySem.F.type_list_pop mt_popG (pv 2)))) pss_nil)
      (pss_cons (ps_while PassesOwn.never (PW.pt (pw_and (pt_cmpR op_gt (pe_callB call_len_u (by rfl) (S_len S) (by decide +kernel) (pa_cons (pv 2) pa_nil)) pe_int (nomark _)) (pw_and1 (pt_ifExp (pt_val (pv 4)) (pt_cmpR op_ge (pv 1) (pe_ix ix_u (pv 2) (pe_un un_neg pe_int) (fun _ _ => rfl)) (nomark _)) (pt_cmpR op_le (pv 1) (pe_ix ix_u (pv 2) (pe_un un_neg pe_int) (fun _ _ => rfl)) (nomark _)))))) (pss_cons (ps_expr (pe_bmL PySem.F.slot_list_append PySem.F.type_list_append mt_append (pv 3) (pa_cons (pe_callB call_abs (by rfl) (S_abs S) (by decide +kernel) (pa_cons (pe_op op_sub (pe_callTy call_int1 (by rfl) (S_int S) (by decide +kernel) (pa_cons (pe_ix ix_u (pv 2) (pe_un un_neg pe_int) (fun _ _ => rfl)) pa_nil)) (pe_callTy call_int1 (by rfl) (S_int S) (by decide +kernel) (pa_cons (pe_ix ix_u (pv 2) (pe_un un_neg pe_int) (fun _ _ => rfl)) pa_nil))) pa_nil)) pa_nil)))
      (pss_one (ps_set (i := 2) sc_moved.nd rfl (by first | exact Or.inl rfl | exact Or.inr rfl) (pe_slice sl_lu (pv 2) po_none (po_some (pe_un un_neg pe_int)))))))
      (pss_one (ps_ret (pe_tup (pa_cons (pe_tup (StX.pa_star (pv 2) (pa_cons (pv 1) pa_nil))) (pa_cons (pv 3) pa_nil))))))))), ?_⟩
    obtain ⟨a, rs, p, rfl, ha, hne, hlen, k⟩ := h
    obtain ⟨z, r, rfl⟩ := List.exists_cons_of_ne_nil hne
    unfold TupR at ha
    simp only [L2.start, List.map_cons, List.map_nil, List.length_cons, List.length_nil, List.replicate, Nat.reduceAdd, Nat.reduceSub, List.cons_append, List.nil_append]
    rw [tSeq_ap, tIfS_ap]
    simp only [tOp, tUn, tVar, tC, tAnd, tOr, tNot, tTest, tB, tCB, tCons, tNil, tBM, tBM0, tBML, tBML0, tAndV, tOrV, tNotV, tIf, tIfT, tChain, tPart, tNoPart, tSl, tTup, tLst, tYes, tIsN, tNotN, tCall, StX.tStar, rI, rI0, rU, rIxU, rLenU, rListU, rTupU, rSlLU, rIsK, kdOf, isK, rEq, rNe, rAppend, rExtend, rPopG, List.getLast?_map, List.getLast?_reverse, List.head?_cons, dropLast_rev, rPopAt, rSetL, rCat, gSub, gName, ipI, scal_int, scal_bl, scal_str, CMul, CDiv, CPow, List.getElem?_cons_succ, List.getElem?_cons_zero, List.set_cons_succ, List.set_cons_zero, List.append_nil, Option.some.injEq, V.int.injEq, V.bl.injEq, V.ref.injEq, V.str.injEq, HO.lst.injEq, HO.tup.injEq, List.cons.injEq, List.cons_ne_nil, and_true, true_and, exists_eq_left, exists_eq_left', exists_and_left, exists_eq', exists_eq, exists_const, reduceCtorEq, false_or, or_false, false_and, and_false, exists_false, seqH, List.length_cons, List.length_nil, List.length_map, List.length_reverse, cx_K, atI_tr1, atI_tr2, cutV_tr2, Option.map_some, upd_same, upd_upd, ha, decide_eq_true_eq]
    by_cases hz : p = z
    · rw [if_pos hz]
      subst hz
      rw [tRet_ap]
      simp only [tOp, tUn, tVar, tC, tAnd, tOr, tNot, tTest, tB, tCB, tCons, tNil, tBM, tBM0, tBML, tBML0, tAndV, tOrV, tNotV, tIf, tIfT, tChain, tPart, tNoPart, tSl, tTup, tLst, tYes, tIsN, tNotN, tCall, StX.tStar, rI, rI0, rU, rIxU, rLenU, rListU, rTupU, rSlLU, rIsK, kdOf, isK, rEq, rNe, rAppend, rExtend, rPopG, List.getLast?_map, List.getLast?_reverse, List.head?_cons, dropLast_rev, rPopAt, rSetL, rCat, gSub, gName, ipI, scal_int, scal_bl, scal_str, CMul, CDiv, CPow, List.getElem?_cons_succ, List.getElem?_cons_zero, List.set_cons_succ, List.set_cons_zero, List.append_nil, Option.some.injEq, V.int.injEq, V.bl.injEq, V.ref.injEq, V.str.injEq, HO.lst.injEq, HO.tup.injEq, List.cons.injEq, List.cons_ne_nil, and_true, true_and, exists_eq_left, exists_eq_left', exists_and_left, exists_eq', exists_eq, exists_const, reduceCtorEq, false_or, or_false, false_and, and_false, exists_false, seqH, List.length_cons, List.length_nil, List.length_map, List.length_reverse, cx_K, atI_tr1, atI_tr2, cutV_tr2, Option.map_some, upd_same, upd_upd]
      refine ⟨by decide, fun l hl => ⟨by decide, fun t ht => ?_⟩⟩
      have e1 : Same H (upd H l (.lst [])) := same_upd hl
      have e2 : Same H (upd (upd H l (.lst [])) t (.tup [.ref a, .ref l])) := e1.new ht
      have hlt : l ≠ t := ne_of_none upd_same ht
      have em : Mt.movedR (p :: r) p = (p :: r, []) := by simp [Mt.movedR]
      refine k t a l _ e2 hl upd_same ?_ ?_
      · rw [em]; exact e2 _ _ ha
      · rw [em, upd_ne hlt, upd_same]; rfl
    · rw [if_neg hz, tNext_ap]
      dsimp only
      rw [tSeq_ap, tPar3_ap]
      simp only [tOp, tUn, tVar, tC, tAnd, tOr, tNot, tTest, tB, tCB, tCons, tNil, tBM, tBM0, tBML, tBML0, tAndV, tOrV, tNotV, tIf, tIfT, tChain, tPart, tNoPart, tSl, tTup, tLst, tYes, tIsN, tNotN, tCall, StX.tStar, rI, rI0, rU, rIxU, rLenU, rListU, rTupU, rSlLU, rIsK, kdOf, isK, rEq, rNe, rAppend, rExtend, rPopG, List.getLast?_map, List.getLast?_reverse, List.head?_cons, dropLast_rev, rPopAt, rSetL, rCat, gSub, gName, ipI, scal_int, scal_bl, scal_str, CMul, CDiv, CPow, List.getElem?_cons_succ, List.getElem?_cons_zero, List.set_cons_succ, List.set_cons_zero, List.append_nil, Option.some.injEq, V.int.injEq, V.bl.injEq, V.ref.injEq, V.str.injEq, HO.lst.injEq, HO.tup.injEq, List.cons.injEq, List.cons_ne_nil, and_true, true_and, exists_eq_left, exists_eq_left', exists_and_left, exists_eq', exists_eq, exists_const, reduceCtorEq, false_or, or_false, false_and, and_false, exists_false, seqH, List.length_cons, List.length_nil, List.length_map, List.length_reverse, cx_K, atI_tr1, atI_tr2, cutV_tr2, Option.map_some, upd_same, upd_upd, ha]
      intro q hq
      refine ⟨by decide, fun l hl => ?_⟩
      have e1 : Same H (upd H q (.lst (List.map V.int (z :: r).reverse))) := same_upd hq
      have e2 := e1.new (o := .lst []) hl
      have hql : q ≠ l := ne_of_none upd_same hl
      have ha2 := e2 _ _ ha
      simp only [ha2, tOp, tUn, tVar, tC, tAnd, tOr, tNot, tTest, tB, tCB, tCons, tNil, tBM, tBM0, tBML, tBML0, tAndV, tOrV, tNotV, tIf, tIfT, tChain, tPart, tNoPart, tSl, tTup, tLst, tYes, tIsN, tNotN, tCall, StX.tStar, rI, rI0, rU, rIxU, rLenU, rListU, rTupU, rSlLU, rIsK, kdOf, isK, rEq, rNe, rAppend, rExtend, rPopG, List.getLast?_map, List.getLast?_reverse, List.head?_cons, dropLast_rev, rPopAt, rSetL, rCat, gSub, gName, ipI, scal_int, scal_bl, scal_str, CMul, CDiv, CPow, List.getElem?_cons_succ, List.getElem?_cons_zero, List.set_cons_succ, List.set_cons_zero, List.append_nil, Option.some.injEq, V.int.injEq, V.bl.injEq, V.ref.injEq, V.str.injEq, HO.lst.injEq, HO.tup.injEq, List.cons.injEq, List.cons_ne_nil, and_true, true_and, exists_eq_left, exists_eq_left', exists_and_left, exists_eq', exists_eq, exists_const, reduceCtorEq, false_or, or_false, false_and, and_false, exists_false, seqH, List.length_cons, List.length_nil, List.length_map, List.length_reverse, cx_K, atI_tr1, atI_tr2, cutV_tr2, Option.map_some, upd_same, upd_upd]
      refine ⟨_, _, _, ⟨rfl, rfl, rfl⟩, ?_⟩
      have hq2 : upd (upd H q (.lst (List.map V.int (z :: r).reverse))) l (.lst []) q = some (.lst (List.map V.int (z :: r).reverse)) := by rw [upd_ne hql, upd_same]
      have hl2 : upd (upd H q (.lst (List.map V.int (z :: r).reverse))) l (.lst []) l = some (.lst []) := upd_same
      have hlf : H l = none := e1.free hl
      generalize upd (upd H q (.lst (List.map V.int (z :: r).reverse))) l (.lst []) = H1 at *
      refine ⟨MvMid H a q l p z r, ?_, ?_⟩
      · rw [tIfS_ap]
        simp only [tOp, tUn, tVar, tC, tAnd, tOr, tNot, tTest, tB, tCB, tCons, tNil, tBM, tBM0, tBML, tBML0, tAndV, tOrV, tNotV, tIf, tIfT, tChain, tPart, tNoPart, tSl, tTup, tLst, tYes, tIsN, tNotN, tCall, StX.tStar, rI, rI0, rU, rIxU, rLenU, rListU, rTupU, rSlLU, rIsK, kdOf, isK, rEq, rNe, rAppend, rExtend, rPopG, List.getLast?_map, List.getLast?_reverse, List.head?_cons, dropLast_rev, rPopAt, rSetL, rCat, gSub, gName, ipI, scal_int, scal_bl, scal_str, CMul, CDiv, CPow, List.getElem?_cons_succ, List.getElem?_cons_zero, List.set_cons_succ, List.set_cons_zero, List.append_nil, Option.some.injEq, V.int.injEq, V.bl.injEq, V.ref.injEq, V.str.injEq, HO.lst.injEq, HO.tup.injEq, List.cons.injEq, List.cons_ne_nil, and_true, true_and, exists_eq_left, exists_eq_left', exists_and_left, exists_eq', exists_eq, exists_const, reduceCtorEq, false_or, or_false, false_and, and_false, exists_false, seqH, List.length_cons, List.length_nil, List.length_map, List.length_reverse, cx_K, atI_tr1, atI_tr2, cutV_tr2, Option.map_some, upd_same, upd_upd, hq2, decide_eq_true_eq]
        refine ⟨by decide, ?_⟩
        have ev : decide (((r.length + 1 : Nat) : Int) % 2 = 0) = decide ((r.length + 1) % 2 = 0) := by
          apply decide_eq_decide.mpr; omega
        rw [ev]
        split
        · rename_i c
          rw [tDrop_ap]
          simp only [tOp, tUn, tVar, tC, tAnd, tOr, tNot, tTest, tB, tCB, tCons, tNil, tBM, tBM0, tBML, tBML0, tAndV, tOrV, tNotV, tIf, tIfT, tChain, tPart, tNoPart, tSl, tTup, tLst, tYes, tIsN, tNotN, tCall, StX.tStar, rI, rI0, rU, rIxU, rLenU, rListU, rTupU, rSlLU, rIsK, kdOf, isK, rEq, rNe, rAppend, rExtend, rPopG, List.getLast?_map, List.getLast?_reverse, List.head?_cons, dropLast_rev, rPopAt, rSetL, rCat, gSub, gName, ipI, scal_int, scal_bl, scal_str, CMul, CDiv, CPow, List.getElem?_cons_succ, List.getElem?_cons_zero, List.set_cons_succ, List.set_cons_zero, List.append_nil, Option.some.injEq, V.int.injEq, V.bl.injEq, V.ref.injEq, V.str.injEq, HO.lst.injEq, HO.tup.injEq, List.cons.injEq, List.cons_ne_nil, and_true, true_and, exists_eq_left, exists_eq_left', exists_and_left, exists_eq', exists_eq, exists_const, reduceCtorEq, false_or, or_false, false_and, and_false, exists_false, seqH, List.length_cons, List.length_nil, List.length_map, List.length_reverse, cx_K, atI_tr1, atI_tr2, cutV_tr2, Option.map_some, upd_same, upd_upd, hq2]
          refine ⟨r, rfl, e2.updN hq, upd_same, by rw [upd_ne hql.symm]; exact hl2, by simp at hlen; omega, ?_⟩
          simp only [Mt.movedR, if_neg hz, if_pos c]
        · rename_i c
          rw [tNext_ap]
          refine ⟨z :: r, rfl, e2, hq2, hl2, hlen, ?_⟩
          simp only [Mt.movedR, if_neg hz, if_neg c]
      · rintro σ' H' ⟨fd, rfl, e3, hq3, hl3, hln, hm⟩
        rw [tSeq_ap]
        refine ⟨MvW H a l p z r, ⟨_, fd, [], q, rfl, e3, hq, hql, hq3, hl3, by simpa using hln, rfl, hm⟩, ?_⟩
        clear hq3 hl3 hln hm e3 fd H' hq2 hl2 e2 ha2 H1 hl e1 hql hq q
        rintro m σ' H' ⟨fd, hs, q, rfl, e3, hq, hql, hq3, hl3, hln, rfl, hm⟩
        have fin : ∀ g : List Int, H' q = some (.lst (g.reverse.map V.int)) → g.length ≤ 100000 → Mt.movedR (z :: r) p = (p :: g, hs) →
            tRet (tTup (tCons (tTup (StX.tStar K (tVar 2) (tCons (tVar 1) tNil))) (tCons (tVar 3) tNil))) { nx := fun x H' => Q V.non H', rt := Q } [some (.ref a), some (.int p), some (.ref q), some (.ref l), some (.bl (decide (z < p)))] H' := by
          intro g hg hgl hm
          rw [tRet_ap]
          simp only [tOp, tUn, tVar, tC, tAnd, tOr, tNot, tTest, tB, tCB, tCons, tNil, tBM, tBM0, tBML, tBML0, tAndV, tOrV, tNotV, tIf, tIfT, tChain, tPart, tNoPart, tSl, tTup, tLst, tYes, tIsN, tNotN, tCall, StX.tStar, rI, rI0, rU, rIxU, rLenU, rListU, rTupU, rSlLU, rIsK, kdOf, isK, rEq, rNe, rAppend, rExtend, rPopG, List.getLast?_map, List.getLast?_reverse, List.head?_cons, dropLast_rev, rPopAt, rSetL, rCat, gSub, gName, ipI, scal_int, scal_bl, scal_str, CMul, CDiv, CPow, List.getElem?_cons_succ, List.getElem?_cons_zero, List.set_cons_succ, List.set_cons_zero, List.append_nil, Option.some.injEq, V.int.injEq, V.bl.injEq, V.ref.injEq, V.str.injEq, HO.lst.injEq, HO.tup.injEq, List.cons.injEq, List.cons_ne_nil, and_true, true_and, exists_eq_left, exists_eq_left', exists_and_left, exists_eq', exists_eq, exists_const, reduceCtorEq, false_or, or_false, false_and, and_false, exists_false, seqH, List.length_cons, List.length_nil, List.length_map, List.length_reverse, cx_K, atI_tr1, atI_tr2, cutV_tr2, Option.map_some, upd_same, upd_upd]
          refine ⟨_, .inr (SqL.of hg), ?_⟩
          refine ⟨by simp [sizeLine]; omega, fun b hb => ⟨by decide, fun t ht => ?_⟩⟩
          have e4 := e3.new (o := .tup (List.map V.int g.reverse ++ [V.int p])) hb
          have e5 := e4.new (o := .tup [.ref b, .ref l]) ht
          have hbt : b ≠ t := ne_of_none upd_same ht
          have hlb : l ≠ b := ne_of_none hl3 hb
          have hlt : l ≠ t := ne_of_none (by rw [upd_ne hlb]; exact hl3) ht
          refine k t b l _ e5 hlf upd_same ?_ ?_
          · unfold TupR; rw [hm, upd_ne hbt, upd_same]; simp
          · rw [hm, upd_ne hlt, upd_ne hlb]; exact hl3
        cases fd with
        | nil =>
          simp only [tOp, tUn, tVar, tC, tAnd, tOr, tNot, tTest, tB, tCB, tCons, tNil, tBM, tBM0, tBML, tBML0, tAndV, tOrV, tNotV, tIf, tIfT, tChain, tPart, tNoPart, tSl, tTup, tLst, tYes, tIsN, tNotN, tCall, StX.tStar, rI, rI0, rU, rIxU, rLenU, rListU, rTupU, rSlLU, rIsK, kdOf, isK, rEq, rNe, rAppend, rExtend, rPopG, List.getLast?_map, List.getLast?_reverse, List.head?_cons, dropLast_rev, rPopAt, rSetL, rCat, gSub, gName, ipI, scal_int, scal_bl, scal_str, CMul, CDiv, CPow, List.getElem?_cons_succ, List.getElem?_cons_zero, List.set_cons_succ, List.set_cons_zero, List.append_nil, Option.some.injEq, V.int.injEq, V.bl.injEq, V.ref.injEq, V.str.injEq, HO.lst.injEq, HO.tup.injEq, List.cons.injEq, List.cons_ne_nil, and_true, true_and, exists_eq_left, exists_eq_left', exists_and_left, exists_eq', exists_eq, exists_const, reduceCtorEq, false_or, or_false, false_and, and_false, exists_false, seqH, List.length_cons, List.length_nil, List.length_map, List.length_reverse, cx_K, atI_tr1, atI_tr2, cutV_tr2, Option.map_some, upd_same, upd_upd, hq3, List.reverse_nil, List.map_nil]
          simp
          exact fin [] (by simpa using hq3) (by simp) (by simpa [Mt.shrink] using hm)
        | cons x fd =>
        cases fd with
        | nil =>
          simp only [tOp, tUn, tVar, tC, tAnd, tOr, tNot, tTest, tB, tCB, tCons, tNil, tBM, tBM0, tBML, tBML0, tAndV, tOrV, tNotV, tIf, tIfT, tChain, tPart, tNoPart, tSl, tTup, tLst, tYes, tIsN, tNotN, tCall, StX.tStar, rI, rI0, rU, rIxU, rLenU, rListU, rTupU, rSlLU, rIsK, kdOf, isK, rEq, rNe, rAppend, rExtend, rPopG, List.getLast?_map, List.getLast?_reverse, List.head?_cons, dropLast_rev, rPopAt, rSetL, rCat, gSub, gName, ipI, scal_int, scal_bl, scal_str, CMul, CDiv, CPow, List.getElem?_cons_succ, List.getElem?_cons_zero, List.set_cons_succ, List.set_cons_zero, List.append_nil, Option.some.injEq, V.int.injEq, V.bl.injEq, V.ref.injEq, V.str.injEq, HO.lst.injEq, HO.tup.injEq, List.cons.injEq, List.cons_ne_nil, and_true, true_and, exists_eq_left, exists_eq_left', exists_and_left, exists_eq', exists_eq, exists_const, reduceCtorEq, false_or, or_false, false_and, and_false, exists_false, seqH, List.length_cons, List.length_nil, List.length_map, List.length_reverse, cx_K, atI_tr1, atI_tr2, cutV_tr2, Option.map_some, upd_same, upd_upd, hq3]
          simp
          exact fin [x] (by simpa using hq3) (by simp) (by simpa [Mt.shrink] using hm)
        | cons y fd =>
          simp only [tOp, tUn, tVar, tC, tAnd, tOr, tNot, tTest, tB, tCB, tCons, tNil, tBM, tBM0, tBML, tBML0, tAndV, tOrV, tNotV, tIf, tIfT, tChain, tPart, tNoPart, tSl, tTup, tLst, tYes, tIsN, tNotN, tCall, StX.tStar, rI, rI0, rU, rIxU, rLenU, rListU, rTupU, rSlLU, rIsK, kdOf, isK, rEq, rNe, rAppend, rExtend, rPopG, List.getLast?_map, List.getLast?_reverse, List.head?_cons, dropLast_rev, rPopAt, rSetL, rCat, gSub, gName, ipI, scal_int, scal_bl, scal_str, CMul, CDiv, CPow, List.getElem?_cons_succ, List.getElem?_cons_zero, List.set_cons_succ, List.set_cons_zero, List.append_nil, Option.some.injEq, V.int.injEq, V.bl.injEq, V.ref.injEq, V.str.injEq, HO.lst.injEq, HO.tup.injEq, List.cons.injEq, List.cons_ne_nil, and_true, true_and, exists_eq_left, exists_eq_left', exists_and_left, exists_eq', exists_eq, exists_const, reduceCtorEq, false_or, or_false, false_and, and_false, exists_false, seqH, List.length_cons, List.length_nil, List.length_map, List.length_reverse, cx_K, atI_tr1, atI_tr2, cutV_tr2, Option.map_some, upd_same, upd_upd, hq3, List.getElem?_cons_succ, List.getElem?_cons_zero]
          rw [if_pos (by simp; omega)]
          generalize hup : decide (z < p) = up at *
          by_cases c : Mt.pas up p y = true
          · have hm2 : Mt.movedR (z :: r) p = (p :: (Mt.shrink up p fd (hs ++ [Mt.iabs (x - y)])).1, (Mt.shrink up p fd (hs ++ [Mt.iabs (x - y)])).2) := by
              rw [hm]; simp only [Mt.shrink, if_pos c]
            cases up <;> simp only [Bool.false_eq_true, if_true, if_false, tOp, tUn, tVar, tC, tAnd, tOr, tNot, tTest, tB, tCB, tCons, tNil, tBM, tBM0, tBML, tBML0, tAndV, tOrV, tNotV, tIf, tIfT, tChain, tPart, tNoPart, tSl, tTup, tLst, tYes, tIsN, tNotN, tCall, StX.tStar, rI, rI0, rU, rIxU, rLenU, rListU, rTupU, rSlLU, rIsK, kdOf, isK, rEq, rNe, rAppend, rExtend, rPopG, List.getLast?_map, List.getLast?_reverse, List.head?_cons, dropLast_rev, rPopAt, rSetL, rCat, gSub, gName, ipI, scal_int, scal_bl, scal_str, CMul, CDiv, CPow, List.getElem?_cons_succ, List.getElem?_cons_zero, List.set_cons_succ, List.set_cons_zero, List.append_nil, Option.some.injEq, V.int.injEq, V.bl.injEq, V.ref.injEq, V.str.injEq, HO.lst.injEq, HO.tup.injEq, List.cons.injEq, List.cons_ne_nil, and_true, true_and, exists_eq_left, exists_eq_left', exists_and_left, exists_eq', exists_eq, exists_const, reduceCtorEq, false_or, or_false, false_and, and_false, exists_false, seqH, List.length_cons, List.length_nil, List.length_map, List.length_reverse, cx_K, atI_tr1, atI_tr2, cutV_tr2, Option.map_some, upd_same, upd_upd, decide_eq_true_eq]
            all_goals rw [if_pos (by simpa [Mt.pas] using c)]
            all_goals refine ⟨fun σ' H'' => MvW H a l p z r fd.length σ' H'', fun σ' H'' w => ⟨fd.length, by omega, w⟩, ?_⟩
            all_goals rw [tSeq_ap, tDrop_ap]
            all_goals simp only [tOp, tUn, tVar, tC, tAnd, tOr, tNot, tTest, tB, tCB, tCons, tNil, tBM, tBM0, tBML, tBML0, tAndV, tOrV, tNotV, tIf, tIfT, tChain, tPart, tNoPart, tSl, tTup, tLst, tYes, tIsN, tNotN, tCall, StX.tStar, rI, rI0, rU, rIxU, rLenU, rListU, rTupU, rSlLU, rIsK, kdOf, isK, rEq, rNe, rAppend, rExtend, rPopG, List.getLast?_map, List.getLast?_reverse, List.head?_cons, dropLast_rev, rPopAt, rSetL, rCat, gSub, gName, ipI, scal_int, scal_bl, scal_str, CMul, CDiv, CPow, List.getElem?_cons_succ, List.getElem?_cons_zero, List.set_cons_succ, List.set_cons_zero, List.append_nil, Option.some.injEq, V.int.injEq, V.bl.injEq, V.ref.injEq, V.str.injEq, HO.lst.injEq, HO.tup.injEq, List.cons.injEq, List.cons_ne_nil, and_true, true_and, exists_eq_left, exists_eq_left', exists_and_left, exists_eq', exists_eq, exists_const, reduceCtorEq, false_or, or_false, false_and, and_false, exists_false, seqH, List.length_cons, List.length_nil, List.length_map, List.length_reverse, cx_K, atI_tr1, atI_tr2, cutV_tr2, Option.map_some, upd_same, upd_upd, hq3, hl3, exists_eq', List.getElem?_cons_succ, List.getElem?_cons_zero]
            all_goals refine ⟨by simp [sizeLine] at hln ⊢; omega, ?_⟩
            all_goals rw [tAsg_ap]
            all_goals simp only [tOp, tUn, tVar, tC, tAnd, tOr, tNot, tTest, tB, tCB, tCons, tNil, tBM, tBM0, tBML, tBML0, tAndV, tOrV, tNotV, tIf, tIfT, tChain, tPart, tNoPart, tSl, tTup, tLst, tYes, tIsN, tNotN, tCall, StX.tStar, rI, rI0, rU, rIxU, rLenU, rListU, rTupU, rSlLU, rIsK, kdOf, isK, rEq, rNe, rAppend, rExtend, rPopG, List.getLast?_map, List.getLast?_reverse, List.head?_cons, dropLast_rev, rPopAt, rSetL, rCat, gSub, gName, ipI, scal_int, scal_bl, scal_str, CMul, CDiv, CPow, List.getElem?_cons_succ, List.getElem?_cons_zero, List.set_cons_succ, List.set_cons_zero, List.append_nil, Option.some.injEq, V.int.injEq, V.bl.injEq, V.ref.injEq, V.str.injEq, HO.lst.injEq, HO.tup.injEq, List.cons.injEq, List.cons_ne_nil, and_true, true_and, exists_eq_left, exists_eq_left', exists_and_left, exists_eq', exists_eq, exists_const, reduceCtorEq, false_or, or_false, false_and, and_false, exists_false, seqH, List.length_cons, List.length_nil, List.length_map, List.length_reverse, cx_K, atI_tr1, atI_tr2, cutV_tr2, Option.map_some, upd_same, upd_upd, upd_ne hql, hq3, List.drop_succ_cons, List.drop_zero]
            all_goals intro q2 hq2
            all_goals have hl2 : l ≠ q2 := ne_of_none (upd_same) hq2
            all_goals have e4 : Same H (upd (upd H' l (.lst (List.map V.int hs ++ [V.int (if x - y < 0 then -(x - y) else x - y)]))) q2 (.lst (List.map V.int fd.reverse))) := (e3.updN hlf).new hq2
            all_goals refine ⟨fd, hs ++ [Mt.iabs (x - y)], q2, by rw [hup], e4, (e3.updN hlf).free hq2, hl2.symm, upd_same, ?_, by simp at hln ⊢; omega, rfl, by rw [hup]; exact hm2⟩
            all_goals rw [upd_ne hl2, upd_same]; simp [Mt.iabs]
          · have hm2 : Mt.movedR (z :: r) p = (p :: x :: y :: fd, hs) := by
              rw [hm]; simp only [Mt.shrink, if_neg c]
            cases up <;> simp only [Bool.false_eq_true, if_true, if_false, tOp, tUn, tVar, tC, tAnd, tOr, tNot, tTest, tB, tCB, tCons, tNil, tBM, tBM0, tBML, tBML0, tAndV, tOrV, tNotV, tIf, tIfT, tChain, tPart, tNoPart, tSl, tTup, tLst, tYes, tIsN, tNotN, tCall, StX.tStar, rI, rI0, rU, rIxU, rLenU, rListU, rTupU, rSlLU, rIsK, kdOf, isK, rEq, rNe, rAppend, rExtend, rPopG, List.getLast?_map, List.getLast?_reverse, List.head?_cons, dropLast_rev, rPopAt, rSetL, rCat, gSub, gName, ipI, scal_int, scal_bl, scal_str, CMul, CDiv, CPow, List.getElem?_cons_succ, List.getElem?_cons_zero, List.set_cons_succ, List.set_cons_zero, List.append_nil, Option.some.injEq, V.int.injEq, V.bl.injEq, V.ref.injEq, V.str.injEq, HO.lst.injEq, HO.tup.injEq, List.cons.injEq, List.cons_ne_nil, and_true, true_and, exists_eq_left, exists_eq_left', exists_and_left, exists_eq', exists_eq, exists_const, reduceCtorEq, false_or, or_false, false_and, and_false, exists_false, seqH, List.length_cons, List.length_nil, List.length_map, List.length_reverse, cx_K, atI_tr1, atI_tr2, cutV_tr2, Option.map_some, upd_same, upd_upd, decide_eq_true_eq]
            all_goals rw [if_neg (by simpa [Mt.pas] using c)]
            all_goals exact fin _ hq3 (by simp at hln ⊢; omega) hm2
def spFollowed : Sp := fun vs H Q _ => ∃ (a b : Addr) (rs row : List Int), vs = [.ref a, .ref b] ∧ TupR H a rs ∧ rs ≠ [] ∧ H b = some (.lst (row.map V.int)) ∧ rs.length + row.length ≤ 100000 ∧
  ∀ t c l H', Same H H' → H l = none → H' t = some (.tup [.ref c, .ref l]) → TupR H' c (Mt.followR rs row).1 → H' l = some (.lst ((Mt.followR rs row).2.map V.int)) → Q (.ref t) H'
def FoW (H : Hp) (a b l : Addr) (rs row : List Int) (i : Nat) (σ' : L2.St) (H' : Hp) : Prop := ∃ (c : Addr) (u v : Option V), σ' = [some (.ref a), some (.ref b), some (.ref c), some (.ref l), u, v] ∧ Same H H' ∧
  TupR H' c (Mt.followR rs (row.take i)).1 ∧ H' l = some (.lst ((Mt.followR rs (row.take i)).2.map V.int))
theorem sc_followed : FnScope ["places", "row", "found", "heights", "place", "closed"] ["places", "row"] (defScope s_followed) := ⟨rfl, rfl, rfl, by decide +kernel, rfl, by decide +kernel, by decide +kernel⟩
theorem fn_followed (S : SayL K mg) : Fn P w K mg base CX0 3 "followed" ["places", "row"] spFollowed := by
  have F_moved := fn_moved (P := P) (w := w) (base := base) S
  refine fn_mk s_followed S 12 19 rfl rfl sc_followed (fun _ _ _ _ _ _ us hl => match us, hl with | [_, _], _ => rfl) (fun vs H Q E h => ?_) (fun f cdv A outer s H vs Q E hr h => ?_)
  · obtain ⟨_, _, _, _, rfl, _⟩ := h; rfl
  · have hr0 := hr
    have hu := hu_of hr
    have hr_moved : Room 1 _ := hr.mono (by decide)
    have hr1_moved : Room 2 _ := hr.mono (by decide)
    refine ⟨_, (pss_cons (ps_par (i := 2) (j := 3) (by rfl) sc_followed.nd rfl rfl (by decide) rfl rfl (pa_cons (pv 0) (pa_cons (pe_lst pa_nil) pa_nil)) (by rfl))
      (pss_cons (ps_for PassesOwn.never rfl (pi_list (pv 1)) (pg_name (i := 4) sc_followed.nd rfl (by first | exact Or.inl rfl | exact Or.inr rfl)) (pss_cons (ps_asg (pe_fn F_moved hr_moved pass0 (pa_cons (pv 2) (pa_cons (pv 4) pa_nil))) (pg_tup rfl (pgs_cons (pg_name (i := 2) sc_followed.nd rfl (by first | exact Or.inl rfl | exact Or.inr rfl)) (pgs_cons (pg_name (i := 5) sc_followed.nd rfl (by first | exact Or.inl rfl | exact Or.inr rfl)) pgs_nil))))
      (pss_one (ps_expr (pe_bmL PySem.F.slot_list_extend PySem.F.type_list_extend mt_extend (pv 3) (pa_cons (pv 5) pa_nil))))))
      (pss_one (ps_ret (pe_tup (pa_cons (pv 2) (pa_cons (pv 3) pa_nil))))))), ?_⟩
    obtain ⟨a, b, rs, row, rfl, ha, hne, hb, hlen, k⟩ := h
    simp only [L2.start, List.map_cons, List.map_nil, List.length_cons, List.length_nil, List.replicate, Nat.reduceAdd, Nat.reduceSub, List.cons_append, List.nil_append]
    rw [tSeq_ap, tPar_ap]
    simp only [tOp, tUn, tVar, tC, tAnd, tOr, tNot, tTest, tB, tCB, tCons, tNil, tBM, tBM0, tBML, tBML0, tAndV, tOrV, tNotV, tIf, tIfT, tChain, tPart, tNoPart, tSl, tTup, tLst, tYes, tIsN, tNotN, tCall, StX.tStar, rI, rI0, rU, rIxU, rLenU, rListU, rTupU, rSlLU, rIsK, kdOf, isK, rEq, rNe, rAppend, rExtend, rPopG, List.getLast?_map, List.getLast?_reverse, List.head?_cons, dropLast_rev, rPopAt, rSetL, rCat, gSub, gName, ipI, scal_int, scal_bl, scal_str, CMul, CDiv, CPow, List.getElem?_cons_succ, List.getElem?_cons_zero, List.set_cons_succ, List.set_cons_zero, List.append_nil, Option.some.injEq, V.int.injEq, V.bl.injEq, V.ref.injEq, V.str.injEq, HO.lst.injEq, HO.tup.injEq, List.cons.injEq, List.cons_ne_nil, and_true, true_and, exists_eq_left, exists_eq_left', exists_and_left, exists_eq', exists_eq, exists_const, reduceCtorEq, false_or, or_false, false_and, and_false, exists_false, seqH, List.length_cons, List.length_nil, List.length_map, List.length_reverse, cx_K, atI_tr1, atI_tr2, cutV_tr2, Option.map_some, upd_same, upd_upd]
    refine ⟨by decide, fun l hl => ?_⟩
    have e1 : Same H (upd H l (.lst [])) := same_upd hl
    refine ⟨_, _, ⟨rfl, rfl⟩, ?_⟩
    have ha1 : TupR (upd H l (.lst [])) a rs := e1 _ _ ha
    have hl1 : upd H l (.lst []) l = some (.lst []) := upd_same
    generalize upd H l (.lst []) = H1 at *
    rw [tSeq_ap]
    refine ⟨_, rfl, b, rfl, ⟨_, SqL.of (e1 _ _ hb)⟩, for_it (walk_list (xs := row.map V.int)) (FoW H a b l rs row) ⟨a, _, _, rfl, e1, ha1, hl1⟩ (fun i σ' H' _ p => ?_) ?_ ?_⟩
    · obtain ⟨_, _, _, _, e, _⟩ := p
      exact SqL.of (e _ _ hb)
    · rintro i x σ' H' H2 hi ⟨c, u, v, rfl, e, hc, hlh⟩ ⟨rfl, hx⟩
      rw [List.length_map] at hi
      rw [List.getElem?_map, List.getElem?_eq_getElem hi] at hx
      cases hx
      have hft := Mt.follow_take rs row i hi
      have hl2 := Mt.follow_cnt (row.take i) rs
      have hl3 : (row.take i).length ≤ row.length := by simp; omega
      simp only [gName]
      rw [tSeq_ap, tAsg_ap]
      simp only [tOp, tUn, tVar, tC, tAnd, tOr, tNot, tTest, tB, tCB, tCons, tNil, tBM, tBM0, tBML, tBML0, tAndV, tOrV, tNotV, tIf, tIfT, tChain, tPart, tNoPart, tSl, tTup, tLst, tYes, tIsN, tNotN, tCall, StX.tStar, rI, rI0, rU, rIxU, rLenU, rListU, rTupU, rSlLU, rIsK, kdOf, isK, rEq, rNe, rAppend, rExtend, rPopG, List.getLast?_map, List.getLast?_reverse, List.head?_cons, dropLast_rev, rPopAt, rSetL, rCat, gSub, gName, ipI, scal_int, scal_bl, scal_str, CMul, CDiv, CPow, List.getElem?_cons_succ, List.getElem?_cons_zero, List.set_cons_succ, List.set_cons_zero, List.append_nil, Option.some.injEq, V.int.injEq, V.bl.injEq, V.ref.injEq, V.str.injEq, HO.lst.injEq, HO.tup.injEq, List.cons.injEq, List.cons_ne_nil, and_true, true_and, exists_eq_left, exists_eq_left', exists_and_left, exists_eq', exists_eq, exists_const, reduceCtorEq, false_or, or_false, false_and, and_false, exists_false, seqH, List.length_cons, List.length_nil, List.length_map, List.length_reverse, cx_K, atI_tr1, atI_tr2, cutV_tr2, Option.map_some, upd_same, upd_upd]
      refine ⟨c, _, _, rfl, hc, Mt.follow_ne _ _ hne, by omega, ?_⟩
      intro t c' l' H3 e3 hl' ht hc' hlc
      refine ⟨t, _, rfl, SqT.of ht, rfl, _, _, rfl, _, _, rfl, rfl, ?_⟩
      rw [tDrop_ap]
      have hlh3 := e3 _ _ hlh
      have hm := Mt.moved_cnt (Mt.followR rs (row.take i)).1 row[i]
      simp only [tOp, tUn, tVar, tC, tAnd, tOr, tNot, tTest, tB, tCB, tCons, tNil, tBM, tBM0, tBML, tBML0, tAndV, tOrV, tNotV, tIf, tIfT, tChain, tPart, tNoPart, tSl, tTup, tLst, tYes, tIsN, tNotN, tCall, StX.tStar, rI, rI0, rU, rIxU, rLenU, rListU, rTupU, rSlLU, rIsK, kdOf, isK, rEq, rNe, rAppend, rExtend, rPopG, List.getLast?_map, List.getLast?_reverse, List.head?_cons, dropLast_rev, rPopAt, rSetL, rCat, gSub, gName, ipI, scal_int, scal_bl, scal_str, CMul, CDiv, CPow, List.getElem?_cons_succ, List.getElem?_cons_zero, List.set_cons_succ, List.set_cons_zero, List.append_nil, Option.some.injEq, V.int.injEq, V.bl.injEq, V.ref.injEq, V.str.injEq, HO.lst.injEq, HO.tup.injEq, List.cons.injEq, List.cons_ne_nil, and_true, true_and, exists_eq_left, exists_eq_left', exists_and_left, exists_eq', exists_eq, exists_const, reduceCtorEq, false_or, or_false, false_and, and_false, exists_false, seqH, List.length_cons, List.length_nil, List.length_map, List.length_reverse, cx_K, atI_tr1, atI_tr2, cutV_tr2, Option.map_some, upd_same, upd_upd, hlh3, hlc]
      refine ⟨by simp [sizeLine]; omega, ?_⟩
      refine ⟨c', _, _, rfl, (e.trans e3).updN hl, ?_, ?_⟩
      · rw [hft]
        unfold TupR
        rw [upd_ne (ne_of hc' hlh3 (by intro z; cases z))]
        exact hc'
      · rw [hft, upd_same, List.map_append]
    · rintro σ' H' ⟨c, u, v, rfl, e, hc, hlh⟩
      rw [List.length_map, List.take_length] at hc hlh
      dsimp only
      rw [tRet_ap]
      simp only [tOp, tUn, tVar, tC, tAnd, tOr, tNot, tTest, tB, tCB, tCons, tNil, tBM, tBM0, tBML, tBML0, tAndV, tOrV, tNotV, tIf, tIfT, tChain, tPart, tNoPart, tSl, tTup, tLst, tYes, tIsN, tNotN, tCall, StX.tStar, rI, rI0, rU, rIxU, rLenU, rListU, rTupU, rSlLU, rIsK, kdOf, isK, rEq, rNe, rAppend, rExtend, rPopG, List.getLast?_map, List.getLast?_reverse, List.head?_cons, dropLast_rev, rPopAt, rSetL, rCat, gSub, gName, ipI, scal_int, scal_bl, scal_str, CMul, CDiv, CPow, List.getElem?_cons_succ, List.getElem?_cons_zero, List.set_cons_succ, List.set_cons_zero, List.append_nil, Option.some.injEq, V.int.injEq, V.bl.injEq, V.ref.injEq, V.str.injEq, HO.lst.injEq, HO.tup.injEq, List.cons.injEq, List.cons_ne_nil, and_true, true_and, exists_eq_left, exists_eq_left', exists_and_left, exists_eq', exists_eq, exists_const, reduceCtorEq, false_or, or_false, false_and, and_false, exists_false, seqH, List.length_cons, List.length_nil, List.length_map, List.length_reverse, cx_K, atI_tr1, atI_tr2, cutV_tr2, Option.map_some, upd_same, upd_upd]
      refine ⟨by decide, fun t ht => ?_⟩
      have hct : c ≠ t := ne_of_none hc ht
      have hlt : l ≠ t := ne_of_none hlh ht
      refine k t c l _ (e.new ht) hl upd_same ?_ ?_
      · unfold TupR; rw [upd_ne hct]; exact hc
      · rw [upd_ne hlt]; exact hlh
def spIsNext : Sp := fun vs H Q _ => ∃ (a : Addr) (rs : List Int) (p : Int), vs = [.ref a, .int p] ∧ TupR H a rs ∧ ∀ H', Same H H' → Q (.bl (Mt.isNextR rs p)) H'
theorem cut2 (b a : Int) (r : List Int) : cutV (List.map V.int (b :: a :: r).reverse) (some (-2)) none = List.map V.int [a, b] := by
  unfold cutV
  have e : HT.sIx (List.map V.int (b :: a :: r).reverse).length 0 (some (-2)) = r.length := by
    unfold HT.sIx; simp; omega
  have e2 : HT.sIx (List.map V.int (b :: a :: r).reverse).length (List.map V.int (b :: a :: r).reverse).length none = r.length + 2 := by
    unfold HT.sIx; simp
  rw [e, e2]
  simp
theorem sc_is_next : FnScope ["places", "place"] ["places", "place"] (defScope s_is_next) := ⟨rfl, rfl, rfl, by decide +kernel, rfl, by decide +kernel, by decide +kernel⟩
theorem fn_is_next (S : SayL K mg) : Fn P w K mg base CX0 1 "is_next" ["places", "place"] spIsNext := by
  refine fn_mk s_is_next S 6 16 rfl rfl sc_is_next (fun _ _ _ _ _ _ us hl => match us, hl with | [_, _], _ => rfl) (fun vs H Q E h => ?_) (fun f cdv A outer s H vs Q E hr h => ?_)
  · obtain ⟨_, _, _, rfl, _⟩ := h; rfl
  · have hr0 := hr
    have hu := hu_of hr
    refine ⟨_, (pss_cons (ps_if (pt_cmpR (op_eqSq hr.units) (pv 0) (pe_tup pa_nil) (nomark _)) (pss_one (ps_ret (pe_cmpR op_le (pv 1) pe_int (nomark _)))) pss_nil)
      (pss_cons (ps_if (pt_cmpR op_eq (pe_callB call_len_u (by rfl) (S_len S) (by decide +kernel) (pa_cons (pv 0) pa_nil)) pe_int (nomark _)) (pss_one (ps_ret (pe_cmpR op_gt (pv 1) (pe_ix ix_u (pv 0) pe_int (fun _ _ => rfl)) (nomark _)))) pss_nil)
      (pss_one (ps_ret (pe_chain op_lt op_lt (pe_callB (cr_minU rfl) (by rfl) (S_min S) (by decide +kernel) (pa_cons (pe_slice sl_tu (pv 0) (po_some (pe_un un_neg pe_int)) po_none) pa_nil)) (pv 1) (pe_callB (cr_maxU rfl) (by rfl) (S_max S) (by decide +kernel) (pa_cons (pe_slice sl_tu (pv 0) (po_some (pe_un un_neg pe_int)) po_none) pa_nil))))))), ?_⟩
    obtain ⟨a, rs, p, rfl, ha, k⟩ := h
    unfold TupR at ha
    simp only [L2.start, List.map_cons, List.map_nil, List.length_cons, List.length_nil, List.replicate, Nat.reduceAdd, Nat.reduceSub, List.cons_append, List.nil_append]
    rw [tSeq_ap, tIfS_ap]
    simp only [tOp, tUn, tVar, tC, tAnd, tOr, tNot, tTest, tB, tCB, tCons, tNil, tBM, tBM0, tBML, tBML0, tAndV, tOrV, tNotV, tIf, tIfT, tChain, tPart, tNoPart, tSl, tTup, tLst, tYes, tIsN, tNotN, tCall, StX.tStar, rI, rI0, rU, rIxU, rLenU, rListU, rTupU, rSlLU, rIsK, kdOf, isK, rEq, rNe, rAppend, rExtend, rPopG, List.getLast?_map, List.getLast?_reverse, List.head?_cons, dropLast_rev, rPopAt, rSetL, rCat, gSub, gName, ipI, scal_int, scal_bl, scal_str, CMul, CDiv, CPow, List.getElem?_cons_succ, List.getElem?_cons_zero, List.set_cons_succ, List.set_cons_zero, List.append_nil, Option.some.injEq, V.int.injEq, V.bl.injEq, V.ref.injEq, V.str.injEq, HO.lst.injEq, HO.tup.injEq, List.cons.injEq, List.cons_ne_nil, and_true, true_and, exists_eq_left, exists_eq_left', exists_and_left, exists_eq', exists_eq, exists_const, reduceCtorEq, false_or, or_false, false_and, and_false, exists_false, seqH, List.length_cons, List.length_nil, List.length_map, List.length_reverse, cx_K, atI_tr1, atI_tr2, cutV_tr2, Option.map_some, upd_same, upd_upd]
    refine ⟨by decide, fun t ht => ?_⟩
    have e1 : Same H (upd H t (.tup [])) := same_upd ht
    have ht1 : upd H t (.tup []) t = some (.tup []) := upd_same
    generalize upd H t (.tup []) = H1 at *
    have ha1 := e1 _ _ ha
    refine ⟨a, t, rs.reverse, [], rfl, rfl, .inl ⟨ha1, ht1⟩, _, rfl, ?_⟩
    cases rs with
    | nil =>
      rw [if_pos (by simp), tRet_ap]
      simp only [tOp, tUn, tVar, tC, tAnd, tOr, tNot, tTest, tB, tCB, tCons, tNil, tBM, tBM0, tBML, tBML0, tAndV, tOrV, tNotV, tIf, tIfT, tChain, tPart, tNoPart, tSl, tTup, tLst, tYes, tIsN, tNotN, tCall, StX.tStar, rI, rI0, rU, rIxU, rLenU, rListU, rTupU, rSlLU, rIsK, kdOf, isK, rEq, rNe, rAppend, rExtend, rPopG, List.getLast?_map, List.getLast?_reverse, List.head?_cons, dropLast_rev, rPopAt, rSetL, rCat, gSub, gName, ipI, scal_int, scal_bl, scal_str, CMul, CDiv, CPow, List.getElem?_cons_succ, List.getElem?_cons_zero, List.set_cons_succ, List.set_cons_zero, List.append_nil, Option.some.injEq, V.int.injEq, V.bl.injEq, V.ref.injEq, V.str.injEq, HO.lst.injEq, HO.tup.injEq, List.cons.injEq, List.cons_ne_nil, and_true, true_and, exists_eq_left, exists_eq_left', exists_and_left, exists_eq', exists_eq, exists_const, reduceCtorEq, false_or, or_false, false_and, and_false, exists_false, seqH, List.length_cons, List.length_nil, List.length_map, List.length_reverse, cx_K, atI_tr1, atI_tr2, cutV_tr2, Option.map_some, upd_same, upd_upd]
      exact k _ e1
    | cons b rs =>
      rw [if_neg (by simp), tNext_ap]
      dsimp only
      rw [tSeq_ap, tIfS_ap]
      simp only [tOp, tUn, tVar, tC, tAnd, tOr, tNot, tTest, tB, tCB, tCons, tNil, tBM, tBM0, tBML, tBML0, tAndV, tOrV, tNotV, tIf, tIfT, tChain, tPart, tNoPart, tSl, tTup, tLst, tYes, tIsN, tNotN, tCall, StX.tStar, rI, rI0, rU, rIxU, rLenU, rListU, rTupU, rSlLU, rIsK, kdOf, isK, rEq, rNe, rAppend, rExtend, rPopG, List.getLast?_map, List.getLast?_reverse, List.head?_cons, dropLast_rev, rPopAt, rSetL, rCat, gSub, gName, ipI, scal_int, scal_bl, scal_str, CMul, CDiv, CPow, List.getElem?_cons_succ, List.getElem?_cons_zero, List.set_cons_succ, List.set_cons_zero, List.append_nil, Option.some.injEq, V.int.injEq, V.bl.injEq, V.ref.injEq, V.str.injEq, HO.lst.injEq, HO.tup.injEq, List.cons.injEq, List.cons_ne_nil, and_true, true_and, exists_eq_left, exists_eq_left', exists_and_left, exists_eq', exists_eq, exists_const, reduceCtorEq, false_or, or_false, false_and, and_false, exists_false, seqH, List.length_cons, List.length_nil, List.length_map, List.length_reverse, cx_K, atI_tr1, atI_tr2, cutV_tr2, Option.map_some, upd_same, upd_upd, ha1]
      cases rs with
      | nil =>
        rw [if_pos (by simp), tRet_ap]
        simp only [tOp, tUn, tVar, tC, tAnd, tOr, tNot, tTest, tB, tCB, tCons, tNil, tBM, tBM0, tBML, tBML0, tAndV, tOrV, tNotV, tIf, tIfT, tChain, tPart, tNoPart, tSl, tTup, tLst, tYes, tIsN, tNotN, tCall, StX.tStar, rI, rI0, rU, rIxU, rLenU, rListU, rTupU, rSlLU, rIsK, kdOf, isK, rEq, rNe, rAppend, rExtend, rPopG, List.getLast?_map, List.getLast?_reverse, List.head?_cons, dropLast_rev, rPopAt, rSetL, rCat, gSub, gName, ipI, scal_int, scal_bl, scal_str, CMul, CDiv, CPow, List.getElem?_cons_succ, List.getElem?_cons_zero, List.set_cons_succ, List.set_cons_zero, List.append_nil, Option.some.injEq, V.int.injEq, V.bl.injEq, V.ref.injEq, V.str.injEq, HO.lst.injEq, HO.tup.injEq, List.cons.injEq, List.cons_ne_nil, and_true, true_and, exists_eq_left, exists_eq_left', exists_and_left, exists_eq', exists_eq, exists_const, reduceCtorEq, false_or, or_false, false_and, and_false, exists_false, seqH, List.length_cons, List.length_nil, List.length_map, List.length_reverse, cx_K, atI_tr1, atI_tr2, cutV_tr2, Option.map_some, upd_same, upd_upd, ha1, List.reverse_cons, List.reverse_nil, List.nil_append, List.map_cons, List.map_nil, atI_zero]
        exact k _ e1
      | cons c rs =>
        rw [if_neg (by simp; omega), tNext_ap]
        dsimp only
        rw [tRet_ap]
        simp only [tOp, tUn, tVar, tC, tAnd, tOr, tNot, tTest, tB, tCB, tCons, tNil, tBM, tBM0, tBML, tBML0, tAndV, tOrV, tNotV, tIf, tIfT, tChain, tPart, tNoPart, tSl, tTup, tLst, tYes, tIsN, tNotN, tCall, StX.tStar, rI, rI0, rU, rIxU, rLenU, rListU, rTupU, rSlLU, rIsK, kdOf, isK, rEq, rNe, rAppend, rExtend, rPopG, List.getLast?_map, List.getLast?_reverse, List.head?_cons, dropLast_rev, rPopAt, rSetL, rCat, gSub, gName, ipI, scal_int, scal_bl, scal_str, CMul, CDiv, CPow, List.getElem?_cons_succ, List.getElem?_cons_zero, List.set_cons_succ, List.set_cons_zero, List.append_nil, Option.some.injEq, V.int.injEq, V.bl.injEq, V.ref.injEq, V.str.injEq, HO.lst.injEq, HO.tup.injEq, List.cons.injEq, List.cons_ne_nil, and_true, true_and, exists_eq_left, exists_eq_left', exists_and_left, exists_eq', exists_eq, exists_const, reduceCtorEq, false_or, or_false, false_and, and_false, exists_false, seqH, List.length_cons, List.length_nil, List.length_map, List.length_reverse, cx_K, atI_tr1, atI_tr2, cutV_tr2, Option.map_some, upd_same, upd_upd, ha1]
        refine ⟨a, _, rfl, ha1, fun q H2 e2 hq => ?_⟩
        rw [cut2] at hq
        refine ⟨q, [c, b], rfl, .inr hq, by simp, fun m hm hmle => ?_⟩
        have ha2 := e2 _ _ ha1
        have em : m = min c b := by
          have h1 := hmle c (by simp)
          have h2 := hmle b (by simp)
          simp at hm
          omega
        refine ⟨_, rfl, ?_⟩
        by_cases c1 : m < p
        · rw [if_pos (by simpa using c1)]
          refine ⟨a, _, rfl, ha2, fun q' H3 e3 hq' => ?_⟩
          rw [cut2] at hq'
          refine ⟨q', [c, b], rfl, .inr hq', by simp, fun m' hm' hmle' => ?_⟩
          have em' : m' = max c b := by
            have h1 := hmle' c (by simp)
            have h2 := hmle' b (by simp)
            simp at hm'
            omega
          refine ⟨_, rfl, ?_⟩
          have ev : Mt.isNextR (b :: c :: rs) p = decide (p < m') := by
            simp only [Mt.isNextR, em', ← em, c1]; simp
          show Q (.bl (decide (p < m'))) H3
          rw [← ev]
          exact k _ ((e1.trans e2).trans e3)
        · rw [if_neg (by simpa using c1)]
          have ev : Mt.isNextR (b :: c :: rs) p = false := by
            simp only [Mt.isNextR, ← em, c1]; simp
          rw [← ev]
          exact k _ (e1.trans e2)
abbrev cM (K : PySem.W.Frag) : Addr := He.ga K "Memory"
/-- v is a Memory with these places (last first) -/
def MemAt (K : PySem.W.Frag) (H : Hp) (v : V) (rs : List Int) : Prop := ∃ x dx t, v = .ref x ∧ H x = some (.ins (cM K) dx [("told", .ref t)]) ∧ TupR H t rs
theorem MemAt.same {K : PySem.W.Frag} {H H' : Hp} {v : V} {rs : List Int} (e : Same H H') (h : MemAt K H v rs) : MemAt K H' v rs := by
  obtain ⟨x, dx, t, h1, h2, h3⟩ := h
  exact ⟨x, dx, t, h1, e _ _ h2, e _ _ h3⟩
def spMemInit (K : PySem.W.Frag) : Sp := fun vs H Q _ => ∃ (H0 : Hp) (x dx t : Addr) (rs : List Int), vs = [.ref x, .ref t] ∧ Same H0 H ∧ H0 x = none ∧ H x = some (.ins (cM K) dx []) ∧ TupR H t rs ∧ Mt.MemOk rs ∧ rs.length ≤ 100000 ∧
  ∀ H', Same H0 H' → H' x = some (.ins (cM K) dx [("told", .ref t)]) → TupR H' t rs → Q .non H'
theorem cutk (rs : List Int) (k : Nat) (h : k ≤ rs.length) : cutV (List.map V.int rs.reverse) none (some (k : Int)) = List.map V.int (rs.drop (rs.length - k)).reverse := by
  rw [cutV_len0]
  have e : HT.sIx (List.map V.int rs.reverse).length (List.map V.int rs.reverse).length (some (k : Int)) = k := by
    rw [HT.sIx_nat]; simp; omega
  rw [e, ← List.map_take, List.take_reverse]
theorem sc_Memory_init : FnScope ["self", "places", "index", "place"] ["self", "places"] (defScope s_Memory_init) := ⟨rfl, rfl, rfl, by decide +kernel, rfl, by decide +kernel, by decide +kernel⟩
theorem fn_Memory_init (S : SayL K mg) : MeB P w K mg base CX0 7 (He.ga K "Memory") "__init__" ["self", "places"] (spMemInit K) := by
  have F_is_place := fn_is_place (P := P) (w := w) (base := base) S
  have F_is_next := fn_is_next (P := P) (w := w) (base := base) S
  refine me_mk s_Memory_init S 8 64 rfl rfl sc_Memory_init (fun _ _ _ _ _ _ us hl => match us, hl with | [_, _], _ => rfl) (fun vs H Q E h => ?_) (fun f cdv A outer s H vs Q E hr h => ?_)
  · obtain ⟨_, _, _, _, _, rfl, _⟩ := h; rfl
  · have hr0 := hr
    have hu := hu_of hr
    have hr_is_place : Room 5 _ := hr.mono (by decide)
    have hr1_is_place : Room 6 _ := hr.mono (by decide)
    have hr_is_next : Room 1 _ := hr.mono (by decide)
    have hr1_is_next : Room 2 _ := hr.mono (by decide)
    refine ⟨_, (pss_cons (ps_if (PW.pt (pw_or (pt_not (pt_val (pe_callB (call_isK Kd.tup (by decide)) (by rfl) (S_isinstance S) (by decide +kernel) (pa_cons (pv 1) (pa_cons (pe_bltn (v := .ty "tuple") rfl (S_tuple S) (by decide +kernel) rfl) pa_nil))))) (pw_or1 (pt_cmpR (op_eqSq hr.units) (pv 1) (pe_tup pa_nil) (nomark _))))) (pss_one ps_never) pss_nil)
      (pss_cons (ps_for PassesOwn.never rfl (pi_enumT (by rfl) (S_enumerate S) (pa_cons (pv 1) pa_nil)) (pg_tup rfl (pgs_cons (pg_name (i := 2) sc_Memory_init.nd rfl (by first | exact Or.inl rfl | exact Or.inr rfl)) (pgs_cons (pg_name (i := 3) sc_Memory_init.nd rfl (by first | exact Or.inl rfl | exact Or.inr rfl)) pgs_nil))) (pss_one (ps_if (PW.pt (pw_or (pt_not (pt_val (pe_fn F_is_place hr_is_place pass0 (pa_cons (pv 3) pa_nil)))) (pw_or1 (pt_not (pt_val (pe_fn F_is_next hr_is_next pass0 (pa_cons (pe_slice sl_tu (pv 1) po_none (po_some (pv 2))) (pa_cons (pv 3) pa_nil)))))))) (pss_one ps_never) pss_nil)))
      (pss_one (ps_fld (pv 0) (pv 1) rfl)))), ?_⟩
    obtain ⟨H0, x, dx, t, rs, rfl, s0, hx0, hx, ht, ⟨hne, hv⟩, hlen, k⟩ := h
    unfold TupR at ht
    simp only [L2.start, List.map_cons, List.map_nil, List.length_cons, List.length_nil, List.replicate, Nat.reduceAdd, Nat.reduceSub, List.cons_append, List.nil_append]
    rw [tSeq_ap, tIfS_ap]
    simp only [tOp, tUn, tVar, tC, tAnd, tOr, tNot, tTest, tB, tCB, tCons, tNil, tBM, tBM0, tBML, tBML0, tAndV, tOrV, tNotV, tIf, tIfT, tChain, tPart, tNoPart, tSl, tTup, tLst, tYes, tIsN, tNotN, tCall, StX.tStar, rI, rI0, rU, rIxU, rLenU, rListU, rTupU, rSlLU, rIsK, kdOf, isK, rEq, rNe, rAppend, rExtend, rPopG, List.getLast?_map, List.getLast?_reverse, List.head?_cons, dropLast_rev, rPopAt, rSetL, rCat, gSub, gName, ipI, scal_int, scal_bl, scal_str, CMul, CDiv, CPow, List.getElem?_cons_succ, List.getElem?_cons_zero, List.set_cons_succ, List.set_cons_zero, List.append_nil, Option.some.injEq, V.int.injEq, V.bl.injEq, V.ref.injEq, V.str.injEq, HO.lst.injEq, HO.tup.injEq, List.cons.injEq, List.cons_ne_nil, and_true, true_and, exists_eq_left, exists_eq_left', exists_and_left, exists_eq', exists_eq, exists_const, reduceCtorEq, false_or, or_false, false_and, and_false, exists_false, seqH, List.length_cons, List.length_nil, List.length_map, List.length_reverse, cx_K, atI_tr1, atI_tr2, cutV_tr2, Option.map_some, upd_same, upd_upd, ht, Kd.name, Bool.not_true, Bool.false_eq_true, if_false]
    refine ⟨by decide, fun q hq => ?_⟩
    have e1 : Same H (upd H q (.tup [])) := same_upd hq
    have hq1 : upd H q (.tup []) q = some (.tup []) := upd_same
    generalize upd H q (.tup []) = H1 at *
    have ht1 := e1 _ _ ht
    refine ⟨t, q, rs.reverse, [], rfl, rfl, .inl ⟨ht1, hq1⟩, _, rfl, ?_⟩
    rw [if_neg (by simp [hne]), tNext_ap]
    dsimp only
    rw [tSeq_ap]
    refine ⟨_, rfl, t, _, rfl, SqT.of ht1, for_it (walk_enumT (xs := rs.reverse.map V.int)) (fun i σ' H' => Same H H' ∧ ∃ u v, σ' = [some (.ref x), some (.ref t), u, v]) ⟨e1, _, _, rfl⟩ (fun i σ' H' _ p => SqT.of (p.1 _ _ ht)) ?_ ?_⟩
    · rintro i y σ' H' H2 hi ⟨e, u, v, rfl⟩ ⟨T, x1, x2, rfl, hT, rfl, hx1, hx2⟩
      cases hx1
      dsimp only at hx2
      rw [List.length_map, List.length_reverse] at hi
      have hi2 : i < rs.reverse.length := by rw [List.length_reverse]; exact hi
      rw [List.getElem?_map, List.getElem?_eq_getElem hi2] at hx2
      cases hx2
      have hg : rs.reverse[i] = rs[rs.length - 1 - i] := by rw [List.getElem_reverse]
      have hat := Mt.memV_at hv (k := rs.length - 1 - i) (by omega)
      rw [← hg] at hat
      have ek : rs.length - 1 - i + 1 = rs.length - i := by omega
      rw [ek] at hat
      have e2 : Same H (upd H' T (.tup [.int (i : Nat), .int rs.reverse[i]])) := e.new hT
      refine ⟨T, _, rfl, SqT.of upd_same, rfl, _, _, rfl, _, _, rfl, rfl, ?_⟩
      generalize upd H' T (.tup [.int (i : Nat), .int rs.reverse[i]]) = H3 at *
      rw [tIfS_ap]
      simp only [tOp, tUn, tVar, tC, tAnd, tOr, tNot, tTest, tB, tCB, tCons, tNil, tBM, tBM0, tBML, tBML0, tAndV, tOrV, tNotV, tIf, tIfT, tChain, tPart, tNoPart, tSl, tTup, tLst, tYes, tIsN, tNotN, tCall, StX.tStar, rI, rI0, rU, rIxU, rLenU, rListU, rTupU, rSlLU, rIsK, kdOf, isK, rEq, rNe, rAppend, rExtend, rPopG, List.getLast?_map, List.getLast?_reverse, List.head?_cons, dropLast_rev, rPopAt, rSetL, rCat, gSub, gName, ipI, scal_int, scal_bl, scal_str, CMul, CDiv, CPow, List.getElem?_cons_succ, List.getElem?_cons_zero, List.set_cons_succ, List.set_cons_zero, List.append_nil, Option.some.injEq, V.int.injEq, V.bl.injEq, V.ref.injEq, V.str.injEq, HO.lst.injEq, HO.tup.injEq, List.cons.injEq, List.cons_ne_nil, and_true, true_and, exists_eq_left, exists_eq_left', exists_and_left, exists_eq', exists_eq, exists_const, reduceCtorEq, false_or, or_false, false_and, and_false, exists_false, seqH, List.length_cons, List.length_nil, List.length_map, List.length_reverse, cx_K, atI_tr1, atI_tr2, cutV_tr2, Option.map_some, upd_same, upd_upd]
      refine ⟨_, rfl, rfl, ?_⟩
      have ep : isPl (.int rs.reverse[i]) = true := by show (decide _ && decide _) = true; rw [decide_eq_true hat.1.1, decide_eq_true hat.1.2]; rfl
      simp only [ep, tOp, tUn, tVar, tC, tAnd, tOr, tNot, tTest, tB, tCB, tCons, tNil, tBM, tBM0, tBML, tBML0, tAndV, tOrV, tNotV, tIf, tIfT, tChain, tPart, tNoPart, tSl, tTup, tLst, tYes, tIsN, tNotN, tCall, StX.tStar, rI, rI0, rU, rIxU, rLenU, rListU, rTupU, rSlLU, rIsK, kdOf, isK, rEq, rNe, rAppend, rExtend, rPopG, List.getLast?_map, List.getLast?_reverse, List.head?_cons, dropLast_rev, rPopAt, rSetL, rCat, gSub, gName, ipI, scal_int, scal_bl, scal_str, CMul, CDiv, CPow, List.getElem?_cons_succ, List.getElem?_cons_zero, List.set_cons_succ, List.set_cons_zero, List.append_nil, Option.some.injEq, V.int.injEq, V.bl.injEq, V.ref.injEq, V.str.injEq, HO.lst.injEq, HO.tup.injEq, List.cons.injEq, List.cons_ne_nil, and_true, true_and, exists_eq_left, exists_eq_left', exists_and_left, exists_eq', exists_eq, exists_const, reduceCtorEq, false_or, or_false, false_and, and_false, exists_false, seqH, List.length_cons, List.length_nil, List.length_map, List.length_reverse, cx_K, atI_tr1, atI_tr2, cutV_tr2, Option.map_some, upd_same, upd_upd, Bool.not_true, Bool.false_eq_true, if_false]
      refine ⟨t, _, rfl, e2 _ _ ht, fun q' H4 e4 hq' => ?_⟩
      rw [cutk rs i (by omega)] at hq'
      refine ⟨q', rs.drop (rs.length - i), _, rfl, hq', fun H5 e5 => ?_⟩
      simp only [hat.2, tOp, tUn, tVar, tC, tAnd, tOr, tNot, tTest, tB, tCB, tCons, tNil, tBM, tBM0, tBML, tBML0, tAndV, tOrV, tNotV, tIf, tIfT, tChain, tPart, tNoPart, tSl, tTup, tLst, tYes, tIsN, tNotN, tCall, StX.tStar, rI, rI0, rU, rIxU, rLenU, rListU, rTupU, rSlLU, rIsK, kdOf, isK, rEq, rNe, rAppend, rExtend, rPopG, List.getLast?_map, List.getLast?_reverse, List.head?_cons, dropLast_rev, rPopAt, rSetL, rCat, gSub, gName, ipI, scal_int, scal_bl, scal_str, CMul, CDiv, CPow, List.getElem?_cons_succ, List.getElem?_cons_zero, List.set_cons_succ, List.set_cons_zero, List.append_nil, Option.some.injEq, V.int.injEq, V.bl.injEq, V.ref.injEq, V.str.injEq, HO.lst.injEq, HO.tup.injEq, List.cons.injEq, List.cons_ne_nil, and_true, true_and, exists_eq_left, exists_eq_left', exists_and_left, exists_eq', exists_eq, exists_const, reduceCtorEq, false_or, or_false, false_and, and_false, exists_false, seqH, List.length_cons, List.length_nil, List.length_map, List.length_reverse, cx_K, atI_tr1, atI_tr2, cutV_tr2, Option.map_some, upd_same, upd_upd, Bool.not_true, Bool.false_eq_true, if_false]
      rw [tNext_ap]
      exact ⟨(e2.trans e4).trans e5, _, _, rfl⟩
    · rintro σ' H' ⟨e, u, v, rfl⟩
      dsimp only
      refine ⟨_, rfl, _, rfl, x, _, dx, [], rfl, e _ _ hx, C_Memory S, N_Memory_told S, by decide, ?_⟩
      have htx : t ≠ x := ne_of ht hx (by intro z; cases z)
      refine k _ ((s0.trans e).updN hx0) upd_same ?_
      unfold TupR
      rw [upd_ne htx]
      exact e _ _ ht
def spMemPlaces (K : PySem.W.Frag) : Sp := fun vs H Q _ => ∃ v rs, vs = [v] ∧ MemAt K H v rs ∧ ∀ t, TupR H t rs → Q (.ref t) H
theorem sc_Memory_places : FnScope ["self"] ["self"] (defScope s_Memory_places) := ⟨rfl, rfl, rfl, by decide +kernel, rfl, by decide +kernel, by decide +kernel⟩
theorem fn_Memory_places (S : SayL K mg) : PrB P w K mg base CX0 1 (He.ga K "Memory") "places" ["self"] (spMemPlaces K) := by
  refine pr_mk s_Memory_places S 0 rfl sc_Memory_places (fun _ _ _ _ _ _ us hl => match us, hl with | [_], _ => rfl) (fun vs H Q E h => ?_) (fun f cdv A outer s H vs Q E hr h => ?_)
  · obtain ⟨_, _, rfl, _⟩ := h; rfl
  · have hr0 := hr
    have hu := hu_of hr
    refine ⟨_, (pss_one (ps_ret (pe_fld (pv 0) rfl))), ?_⟩
    obtain ⟨v, rs, rfl, ⟨x, dx, t, rfl, hx, ht⟩, k⟩ := h
    simp only [L2.start, List.map_cons, List.map_nil, List.length_cons, List.length_nil, List.replicate, Nat.reduceAdd, Nat.reduceSub, List.cons_append, List.nil_append]
    rw [tRet_ap]
    exact ⟨_, rfl, x, _, dx, _, .ref t, rfl, hx, C_Memory S, N_Memory_told S, rfl, k t ht⟩
def spMemPlace (K : PySem.W.Frag) : Sp := fun vs H Q _ => ∃ v a r, vs = [v] ∧ MemAt K H v (a :: r) ∧ Q (.int a) H
theorem sc_Memory_place : FnScope ["self"] ["self"] (defScope s_Memory_place) := ⟨rfl, rfl, rfl, by decide +kernel, rfl, by decide +kernel, by decide +kernel⟩
theorem fn_Memory_place (S : SayL K mg) : PrB P w K mg base CX0 1 (He.ga K "Memory") "place" ["self"] (spMemPlace K) := by
  refine pr_mk s_Memory_place S 1 rfl sc_Memory_place (fun _ _ _ _ _ _ us hl => match us, hl with | [_], _ => rfl) (fun vs H Q E h => ?_) (fun f cdv A outer s H vs Q E hr h => ?_)
  · obtain ⟨_, _, _, rfl, _⟩ := h; rfl
  · have hr0 := hr
    have hu := hu_of hr
    refine ⟨_, (pss_one (ps_ret (pe_ix ix_u (pe_fld (pv 0) rfl) (pe_un un_neg pe_int) (fun _ _ => rfl)))), ?_⟩
    obtain ⟨v, a, r, rfl, ⟨x, dx, t, rfl, hx, ht⟩, k⟩ := h
    unfold TupR at ht
    simp only [L2.start, List.map_cons, List.map_nil, List.length_cons, List.length_nil, List.replicate, Nat.reduceAdd, Nat.reduceSub, List.cons_append, List.nil_append]
    rw [tRet_ap]
    simp only [tOp, tVar, List.getElem?_cons_zero, Option.some.injEq, exists_eq_left']
    refine ⟨_, rfl, x, _, dx, _, .ref t, rfl, hx, C_Memory S, N_Memory_told S, rfl, ?_⟩
    simp only [tOp, tUn, tVar, tC, tAnd, tOr, tNot, tTest, tB, tCB, tCons, tNil, tBM, tBM0, tBML, tBML0, tAndV, tOrV, tNotV, tIf, tIfT, tChain, tPart, tNoPart, tSl, tTup, tLst, tYes, tIsN, tNotN, tCall, StX.tStar, rI, rI0, rU, rIxU, rLenU, rListU, rTupU, rSlLU, rIsK, kdOf, isK, rEq, rNe, rAppend, rExtend, rPopG, List.getLast?_map, List.getLast?_reverse, List.head?_cons, dropLast_rev, rPopAt, rSetL, rCat, gSub, gName, ipI, scal_int, scal_bl, scal_str, CMul, CDiv, CPow, List.getElem?_cons_succ, List.getElem?_cons_zero, List.set_cons_succ, List.set_cons_zero, List.append_nil, Option.some.injEq, V.int.injEq, V.bl.injEq, V.ref.injEq, V.str.injEq, HO.lst.injEq, HO.tup.injEq, List.cons.injEq, List.cons_ne_nil, and_true, true_and, exists_eq_left, exists_eq_left', exists_and_left, exists_eq', exists_eq, exists_const, reduceCtorEq, false_or, or_false, false_and, and_false, exists_false, seqH, List.length_cons, List.length_nil, List.length_map, List.length_reverse, cx_K, atI_tr1, atI_tr2, cutV_tr2, Option.map_some, upd_same, upd_upd, ht]
    exact k
def spMemRow (K : PySem.W.Frag) : Sp := fun vs H Q _ => ∃ v rs, vs = [v] ∧ MemAt K H v rs ∧ rs ≠ [] ∧ ∀ l H', Same H H' → H l = none → H' l = some (.lst (List.map V.int (Mt.rowOf rs))) → Q (.ref l) H'
theorem atI_first (rs : List Int) : atI (List.map V.int rs.reverse) 0 = rs.reverse.head?.map V.int := by
  rw [atI_map]
  cases h : rs.reverse with
  | nil => rfl
  | cons a r => rw [atI_zero]; rfl
theorem cut_from1 (ps : List Int) (h : ps ≠ []) : cutV (List.map V.int ps) (some 1) none = List.map V.int ps.tail := by
  cases ps with
  | nil => exact absurd rfl h
  | cons a r =>
    unfold cutV
    have e : HT.sIx (List.map V.int (a :: r)).length 0 (some 1) = 1 := by unfold HT.sIx; simp
    have e2 : HT.sIx (List.map V.int (a :: r)).length (List.map V.int (a :: r)).length none = r.length + 1 := by unfold HT.sIx; simp
    rw [e, e2, List.take_of_length_le (by simp)]
    simp
theorem sc_Memory_row : FnScope ["self"] ["self"] (defScope s_Memory_row) := ⟨rfl, rfl, rfl, by decide +kernel, rfl, by decide +kernel, by decide +kernel⟩
theorem fn_Memory_row (S : SayL K mg) : PrB P w K mg base CX0 1 (He.ga K "Memory") "row" ["self"] (spMemRow K) := by
  refine pr_mk s_Memory_row S 2 rfl sc_Memory_row (fun _ _ _ _ _ _ us hl => match us, hl with | [_], _ => rfl) (fun vs H Q E h => ?_) (fun f cdv A outer s H vs Q E hr h => ?_)
  · obtain ⟨_, _, rfl, _⟩ := h; rfl
  · have hr0 := hr
    have hu := hu_of hr
    refine ⟨_, (pss_one (ps_ret (pe_ifExp (pt_cmpR op_eq (pe_ix ix_u (pe_fld (pv 0) rfl) pe_int (fun _ _ => rfl)) pe_int (nomark _)) (pe_callTy call_list_u (by rfl) (S_list S) (by decide +kernel) (pa_cons (pe_slice sl_tu (pe_fld (pv 0) rfl) (po_some pe_int) po_none) pa_nil)) (pe_callTy call_list_u (by rfl) (S_list S) (by decide +kernel) (pa_cons (pe_fld (pv 0) rfl) pa_nil))))), ?_⟩
    obtain ⟨v, rs, rfl, ⟨x, dx, t, rfl, hx, ht⟩, hne, k⟩ := h
    unfold TupR at ht
    have hne' : rs.reverse ≠ [] := by simpa using hne
    obtain ⟨f, r, hf⟩ := List.exists_cons_of_ne_nil hne'
    simp only [L2.start, List.map_cons, List.map_nil, List.length_cons, List.length_nil, List.replicate, Nat.reduceAdd, Nat.reduceSub, List.cons_append, List.nil_append]
    rw [tRet_ap]
    simp only [tIf, tTest, tOp, tVar, List.getElem?_cons_zero, Option.some.injEq, exists_eq_left']
    refine ⟨_, rfl, x, _, dx, _, .ref t, rfl, hx, C_Memory S, N_Memory_told S, rfl, ?_⟩
    simp only [tOp, tUn, tVar, tC, tAnd, tOr, tNot, tTest, tB, tCB, tCons, tNil, tBM, tBM0, tBML, tBML0, tAndV, tOrV, tNotV, tIf, tIfT, tChain, tPart, tNoPart, tSl, tTup, tLst, tYes, tIsN, tNotN, tCall, StX.tStar, rI, rI0, rU, rIxU, rLenU, rListU, rTupU, rSlLU, rIsK, kdOf, isK, rEq, rNe, rAppend, rExtend, rPopG, List.getLast?_map, List.getLast?_reverse, List.head?_cons, dropLast_rev, rPopAt, rSetL, rCat, gSub, gName, ipI, scal_int, scal_bl, scal_str, CMul, CDiv, CPow, List.getElem?_cons_succ, List.getElem?_cons_zero, List.set_cons_succ, List.set_cons_zero, List.append_nil, Option.some.injEq, V.int.injEq, V.bl.injEq, V.ref.injEq, V.str.injEq, HO.lst.injEq, HO.tup.injEq, List.cons.injEq, List.cons_ne_nil, and_true, true_and, exists_eq_left, exists_eq_left', exists_and_left, exists_eq', exists_eq, exists_const, reduceCtorEq, false_or, or_false, false_and, and_false, exists_false, seqH, List.length_cons, List.length_nil, List.length_map, List.length_reverse, cx_K, atI_tr1, atI_tr2, cutV_tr2, Option.map_some, upd_same, upd_upd, ht, hf, List.map_cons, atI_zero]
    by_cases c : f = 0
    · rw [if_pos (by simpa using c)]
      refine ⟨_, rfl, x, _, dx, _, .ref t, rfl, hx, C_Memory S, N_Memory_told S, rfl, ?_⟩
      simp only [tOp, tUn, tVar, tC, tAnd, tOr, tNot, tTest, tB, tCB, tCons, tNil, tBM, tBM0, tBML, tBML0, tAndV, tOrV, tNotV, tIf, tIfT, tChain, tPart, tNoPart, tSl, tTup, tLst, tYes, tIsN, tNotN, tCall, StX.tStar, rI, rI0, rU, rIxU, rLenU, rListU, rTupU, rSlLU, rIsK, kdOf, isK, rEq, rNe, rAppend, rExtend, rPopG, List.getLast?_map, List.getLast?_reverse, List.head?_cons, dropLast_rev, rPopAt, rSetL, rCat, gSub, gName, ipI, scal_int, scal_bl, scal_str, CMul, CDiv, CPow, List.getElem?_cons_succ, List.getElem?_cons_zero, List.set_cons_succ, List.set_cons_zero, List.append_nil, Option.some.injEq, V.int.injEq, V.bl.injEq, V.ref.injEq, V.str.injEq, HO.lst.injEq, HO.tup.injEq, List.cons.injEq, List.cons_ne_nil, and_true, true_and, exists_eq_left, exists_eq_left', exists_and_left, exists_eq', exists_eq, exists_const, reduceCtorEq, false_or, or_false, false_and, and_false, exists_false, seqH, List.length_cons, List.length_nil, List.length_map, List.length_reverse, cx_K, atI_tr1, atI_tr2, cutV_tr2, Option.map_some, upd_same, upd_upd]
      refine ⟨t, _, rfl, ht, fun q H1 e1 hq => ?_⟩
      rw [cut_from1 _ hne'] at hq
      refine ⟨q, rfl, _, .inr hq, fun l hl => ?_⟩
      refine k l _ (e1.new hl) (e1.free hl) ?_
      rw [upd_same]
      simp [Mt.rowOf, hf, c]
    · rw [if_neg (by simpa using c)]
      refine ⟨_, rfl, x, _, dx, _, .ref t, rfl, hx, C_Memory S, N_Memory_told S, rfl, ?_⟩
      refine ⟨t, rfl, _, .inr ht, fun l hl => ?_⟩
      refine k l _ (same_upd hl) hl ?_
      rw [upd_same]
      simp [Mt.rowOf, hf, c]
def spMemLen (K : PySem.W.Frag) : Sp := fun vs H Q _ => ∃ v rs, vs = [v] ∧ MemAt K H v rs ∧ Q (.int (rs.length : Nat)) H
def spMemEq (K : PySem.W.Frag) : Sp := fun vs H Q _ => ∃ v u rs, vs = [v, u] ∧ MemAt K H v rs ∧ ((∃ rs', MemAt K H u rs' ∧ Q (.bl (decide (rs = rs'))) H) ∨ (∃ k, kdOf u H = some k ∧ k ≠ .dct ∧ Q (.bl false) H))
theorem sc_Memory_eq : FnScope ["self", "other"] ["self", "other"] (defScope s_Memory_eq) := ⟨rfl, rfl, rfl, by decide +kernel, rfl, by decide +kernel, by decide +kernel⟩
theorem fn_Memory_eq (S : SayL K mg) : MeB P w K mg base CX0 1 (He.ga K "Memory") "__eq__" ["self", "other"] (spMemEq K) := by
  refine me_mk s_Memory_eq S 11 67 rfl rfl sc_Memory_eq (fun _ _ _ _ _ _ us hl => match us, hl with | [_, _], _ => rfl) (fun vs H Q E h => ?_) (fun f cdv A outer s H vs Q E hr h => ?_)
  · obtain ⟨_, _, _, rfl, _⟩ := h; rfl
  · have hr0 := hr
    have hu := hu_of hr
    refine ⟨_, (pss_one (ps_ret (pe_and (pe_callB (call_isC (C_Memory S) (X_is_Memory S)) (by rfl) (S_isinstance S) (by decide +kernel) (pa_cons (pv 1) (pa_cons (pe_glob (v := .ref _) rfl (S_Memory S) rfl) pa_nil))) (pe_one (pe_cmpR (op_eqSq hr.units) (pe_fld (pv 0) rfl) (pe_fld (pv 1) rfl) (nomark _)))))), ?_⟩
    obtain ⟨v, u, rs, rfl, ⟨x, dx, t, rfl, hx, ht⟩, k⟩ := h
    unfold TupR at ht
    simp only [L2.start, List.map_cons, List.map_nil, List.length_cons, List.length_nil, List.replicate, Nat.reduceAdd, Nat.reduceSub, List.cons_append, List.nil_append]
    rw [tRet_ap]
    simp only [tAndV, tCB, tCons, tNil, tVar, tC, List.getElem?_cons_zero, List.getElem?_cons_succ, Option.some.injEq, exists_eq_left']
    rcases k with ⟨rs', ⟨x', dx', t', rfl, hx', ht'⟩, q⟩ | ⟨k, hk, hkn, q⟩
    · refine ⟨_, rfl, .inl ⟨x', dx', _, rfl, hx', _, rfl, ?_⟩⟩
      rw [if_pos rfl]
      refine ⟨_, rfl, x, _, dx, _, .ref t, rfl, hx, C_Memory S, N_Memory_told S, rfl, ?_⟩
      refine ⟨_, rfl, x', _, dx', _, .ref t', rfl, hx', C_Memory S, N_Memory_told S, rfl, ?_⟩
      refine ⟨t, t', rs.reverse, rs'.reverse, rfl, rfl, .inl ⟨ht, ht'⟩, ?_⟩
      have e : decide (rs.reverse = rs'.reverse) = decide (rs = rs') := by
        apply decide_eq_decide.mpr
        exact ⟨fun z => by have := congrArg List.reverse z; simpa using this, fun z => by rw [z]⟩
      rw [e]
      exact q
    · exact ⟨_, rfl, .inr ⟨k, hk, hkn, _, rfl, by rw [if_neg (by decide)]; exact q⟩⟩
def spMemCall (K : PySem.W.Frag) : Sp := fun vs H Q _ => ∃ v rs p, vs = [v, .int p] ∧ MemAt K H v rs ∧ Mt.MemOk rs ∧ rs.length < 100000 ∧ -1000000 ≤ p ∧ p ≤ 1000000 ∧ ∀ u H', Same H H' → MemAt K H' u (Mt.movedR rs p).1 → Q u H'
/-- what making a Memory asks -/
theorem mk_mem {K : PySem.W.Frag} {H : Hp} {t : Addr} {rs : List Int} {Q : VK} {E : XK} (ht : TupR H t rs) (hv : Mt.MemOk rs) (hl : rs.length ≤ 100000) (k : ∀ v H', Same H H' → MemAt K H' v rs → Q v H') :
    ∀ x dx, H x = none → H dx = none → dx ≠ x → spMemInit K (.ref x :: ([.ref t] ++ [])) (upd (upd H dx (.own x)) x (.ins (cM K) dx [])) (fun v H2 => v = .non ∧ Q (.ref x) H2) E := by
  intro x dx hx hdx hne
  have s0 : Same H (upd (upd H dx (.own x)) x (.ins (cM K) dx [])) := (same_upd hdx).updN hx
  exact ⟨H, x, dx, t, rs, rfl, s0, hx, upd_same, s0 _ _ ht, hv, hl, fun H' e h1 h2 => ⟨rfl, k _ _ e ⟨x, dx, t, rfl, h1, h2⟩⟩⟩
def spMemoryOf (K : PySem.W.Frag) : Sp := fun vs H Q _ => ∃ (a : Addr) (ns : List Int), vs = [.ref a] ∧ H a = some (.lst (ns.map V.int)) ∧ RowOk ns ∧ ∀ u H', Same H H' → MemAt K H' u (Mt.memR ns) → Q u H'
theorem sc_memory_of : FnScope ["row"] ["row"] (defScope s_memory_of) := ⟨rfl, rfl, rfl, by decide +kernel, rfl, by decide +kernel, by decide +kernel⟩
theorem fn_memory_of (S : SayL K mg) : Fn P w K mg base CX0 9 "memory_of" ["row"] (spMemoryOf K) := by
  have F_check_row := fn_check_row (P := P) (w := w) (base := base) S
  have F_followed := fn_followed (P := P) (w := w) (base := base) S
  have F_Memory_init := fn_Memory_init (P := P) (w := w) (base := base) S
  refine fn_mk s_memory_of S 13 20 rfl rfl sc_memory_of (fun _ _ _ _ _ _ us hl => match us, hl with | [_], _ => rfl) (fun vs H Q E h => ?_) (fun f cdv A outer s H vs Q E hr h => ?_)
  · obtain ⟨_, _, rfl, _⟩ := h; rfl
  · have hr0 := hr
    have hu := hu_of hr
    have hr_check_row : Room 7 _ := hr.mono (by decide)
    have hr1_check_row : Room 8 _ := hr.mono (by decide)
    have hr_followed : Room 3 _ := hr.mono (by decide)
    have hr1_followed : Room 4 _ := hr.mono (by decide)
    have hr_Memory_init : Room 7 _ := hr.mono (by decide)
    have hr1_Memory_init : Room 8 _ := hr.mono (by decide)
    refine ⟨_, (pss_cons (ps_expr (pe_fn F_check_row hr_check_row pass0 (pa_cons (pv 0) pa_nil)))
      (pss_one (ps_ret (pe_mk F_Memory_init (K_Memory S).makes (K_Memory S).kp (S_Memory S) hr1_Memory_init pass0 (pa_cons (pe_ix ix_u (pe_fn F_followed hr_followed pass0 (pa_cons (pe_tup (pa_cons pe_int pa_nil)) (pa_cons (pv 0) pa_nil))) pe_int (fun _ _ => rfl)) pa_nil))))), ?_⟩
    obtain ⟨a, ns, rfl, ha, hr, k⟩ := h
    simp only [L2.start, List.map_cons, List.map_nil, List.length_cons, List.length_nil, List.replicate, Nat.reduceAdd, Nat.reduceSub, List.cons_append, List.nil_append]
    rw [tSeq_ap, tDrop_ap]
    simp only [tOp, tUn, tVar, tC, tAnd, tOr, tNot, tTest, tB, tCB, tCons, tNil, tBM, tBM0, tBML, tBML0, tAndV, tOrV, tNotV, tIf, tIfT, tChain, tPart, tNoPart, tSl, tTup, tLst, tYes, tIsN, tNotN, tCall, StX.tStar, rI, rI0, rU, rIxU, rLenU, rListU, rTupU, rSlLU, rIsK, kdOf, isK, rEq, rNe, rAppend, rExtend, rPopG, List.getLast?_map, List.getLast?_reverse, List.head?_cons, dropLast_rev, rPopAt, rSetL, rCat, gSub, gName, ipI, scal_int, scal_bl, scal_str, CMul, CDiv, CPow, List.getElem?_cons_succ, List.getElem?_cons_zero, List.set_cons_succ, List.set_cons_zero, List.append_nil, Option.some.injEq, V.int.injEq, V.bl.injEq, V.ref.injEq, V.str.injEq, HO.lst.injEq, HO.tup.injEq, List.cons.injEq, List.cons_ne_nil, and_true, true_and, exists_eq_left, exists_eq_left', exists_and_left, exists_eq', exists_eq, exists_const, reduceCtorEq, false_or, or_false, false_and, and_false, exists_false, seqH, List.length_cons, List.length_nil, List.length_map, List.length_reverse, cx_K, atI_tr1, atI_tr2, cutV_tr2, Option.map_some, upd_same, upd_upd]
    refine ⟨a, ns, rfl, ha, hr, fun H1 e1 => ?_⟩
    dsimp only
    rw [tRet_ap]
    have ha1 := e1 _ _ ha
    refine ⟨by decide, fun q hq => ?_⟩
    have e2 := e1.new (o := .tup [.int 0]) hq
    refine ⟨_, rfl, q, a, [0], ns, rfl, upd_same, by simp, e2 _ _ ha, by have := hr.1; simp; omega, fun t c l H3 e3 _ ht hc _ => ?_⟩
    refine ⟨t, _, 0, _, rfl, rfl, .inr ht, rfl, ?_⟩
    have hm := Mt.follow_len ns [0]
    exact mk_mem hc (Mt.memOk_follow ns [0] Mt.memOk_rest hr.2) (by have := hr.1; simp at hm; omega) fun v H' e hm => k v H' ((e2.trans e3).trans e) hm

/-! values of a Memory, where they are asked -/
section
variable {H : Hp} {v u : V} {rs rs' : List Int} {σ : L2.St} {i : Nat} {Q : VK} {E : XK}
theorem v_row (h : σ[i]? = some (some v)) (m : MemAt K H v rs) (hne : rs ≠ []) (k : ∀ l H', Same H H' → H l = none → H' l = some (.lst (List.map V.int (Mt.rowOf rs))) → Q (.ref l) H') : tProp (He.ga K "Memory") (spMemRow K) [] E (tVar i) σ H Q := by
  obtain ⟨x, dx, t, rfl, hx, ht⟩ := m
  exact ⟨_, h, x, dx, _, rfl, hx, _, rs, rfl, ⟨x, dx, t, rfl, hx, ht⟩, hne, k⟩
theorem v_places (h : σ[i]? = some (some v)) (m : MemAt K H v rs) (k : ∀ t, TupR H t rs → Q (.ref t) H) : tProp (He.ga K "Memory") (spMemPlaces K) [] E (tVar i) σ H Q := by
  obtain ⟨x, dx, t, rfl, hx, ht⟩ := m
  exact ⟨_, h, x, dx, _, rfl, hx, _, rs, rfl, ⟨x, dx, t, rfl, hx, ht⟩, k⟩
theorem v_place {a : Int} {r : List Int} (h : σ[i]? = some (some v)) (m : MemAt K H v (a :: r)) (k : Q (.int a) H) : tProp (He.ga K "Memory") (spMemPlace K) [] E (tVar i) σ H Q := by
  obtain ⟨x, dx, t, rfl, hx, ht⟩ := m
  exact ⟨_, h, x, dx, _, rfl, hx, _, a, r, rfl, ⟨x, dx, t, rfl, hx, ht⟩, k⟩
theorem r_ne (m : MemAt K H v rs) (m' : MemAt K H u rs') (k : Q (.bl (!decide (rs = rs'))) H) : rOwnNe (He.ga K "Memory") (spMemEq K) E v u H Q := by
  obtain ⟨x, dx, t, rfl, hx, ht⟩ := id m
  obtain ⟨x', dx', t', rfl, hx', ht'⟩ := id m'
  exact ⟨x, dx, _, x', dx', _, rfl, hx, rfl, hx', _, _, rs, rfl, m, .inl ⟨rs', m', _, rfl, k⟩⟩
theorem r_eq (m : MemAt K H v rs) (m' : MemAt K H u rs') (k : Q (.bl (decide (rs = rs'))) H) : rOwnEq K (He.ga K "Memory") (spMemEq K) E v u H Q := by
  obtain ⟨x, dx, t, rfl, hx, ht⟩ := id m
  obtain ⟨x', dx', t', rfl, hx', ht'⟩ := id m'
  exact ⟨x, dx, _, rfl, hx, .inl ⟨x', dx', _, rfl, hx'⟩, _, _, rs, rfl, m, .inl ⟨rs', m', _, rfl, k⟩⟩
theorem r_len (m : MemAt K H v rs) (hl : rs.length ≤ 1000000) (k : Q (.int (rs.length : Nat)) H) : rLenI (He.ga K "Memory") (spMemLen K) E [v] H Q := by
  obtain ⟨x, dx, t, rfl, hx, ht⟩ := id m
  exact ⟨x, dx, _, rfl, hx, _, rs, rfl, m, _, rfl, by omega, by omega, k⟩
def mkAsk (K : PySem.W.Frag) (E : XK) (v : V) (Q : VK) (H : Hp) : Prop := ∀ x dx, H x = none → H dx = none → dx ≠ x → spMemInit K (.ref x :: ([v] ++ [])) (upd (upd H dx (.own x)) x (.ins (He.ga K "Memory") dx [])) (fun v H2 => v = .non ∧ Q (.ref x) H2) E
theorem t_mkmem {te : TE} (h : te σ H (fun v H1 => mkAsk K E v Q H1)) : tMake (He.ga K "Memory") (spMemInit K) [] E (tCons te tNil) σ H Q := h
theorem mkAsk_of {t : Addr} (ht : TupR H t rs) (hv : Mt.MemOk rs) (hl : rs.length ≤ 100000) (k : ∀ v H', Same H H' → MemAt K H' v rs → Q v H') : mkAsk K E (.ref t) Q H := mk_mem (Q := Q) ht hv hl k
theorem r_eqx {b : Addr} {xs : List V} (m : MemAt K H v rs) (hb : H b = some (.tup xs)) (hn : PySem.W.notFirst K (He.ga K "Memory") (.type "tuple") = true) (k : Q (.bl false) H) : rOwnEq K (He.ga K "Memory") (spMemEq K) E v (.ref b) H Q := by
  obtain ⟨x, dx, t, rfl, hx, ht⟩ := id m
  exact ⟨x, dx, _, rfl, hx, .inr ⟨b, xs, rfl, hb, hn⟩, _, _, rs, rfl, m, .inr ⟨.tup, by simp [kdOf, hb], by decide, _, rfl, k⟩⟩
theorem p_places (m : MemAt K H v rs) (k : ∀ t, TupR H t rs → Q (.ref t) H) : ∃ a dx fs, v = .ref a ∧ H a = some (.ins (He.ga K "Memory") dx fs) ∧ spMemPlaces K (.ref a :: []) H Q E := by
  obtain ⟨x, dx, t, rfl, hx, ht⟩ := m
  exact ⟨x, dx, _, rfl, hx, _, rs, rfl, ⟨x, dx, t, rfl, hx, ht⟩, k⟩
theorem p_place {a : Int} {r : List Int} (m : MemAt K H v (a :: r)) (k : Q (.int a) H) : ∃ a dx fs, v = .ref a ∧ H a = some (.ins (He.ga K "Memory") dx fs) ∧ spMemPlace K (.ref a :: []) H Q E := by
  obtain ⟨x, dx, t, rfl, hx, ht⟩ := m
  exact ⟨x, dx, _, rfl, hx, _, a, r, rfl, ⟨x, dx, t, rfl, hx, ht⟩, k⟩
theorem p_row (m : MemAt K H v rs) (hne : rs ≠ []) (k : ∀ l H', Same H H' → H l = none → H' l = some (.lst (List.map V.int (Mt.rowOf rs))) → Q (.ref l) H') : ∃ a dx fs, v = .ref a ∧ H a = some (.ins (He.ga K "Memory") dx fs) ∧ spMemRow K (.ref a :: []) H Q E := by
  obtain ⟨x, dx, t, rfl, hx, ht⟩ := m
  exact ⟨x, dx, _, rfl, hx, _, rs, rfl, ⟨x, dx, t, rfl, hx, ht⟩, hne, k⟩
theorem v_call {j : Nat} {p : Int} (h : σ[i]? = some (some v)) (hp : σ[j]? = some (some (.int p))) (m : MemAt K H v rs) (ok : Mt.MemOk rs) (hl : rs.length < 100000) (h0 : -1000000 ≤ p) (h1 : p ≤ 1000000) (k : ∀ u H', Same H H' → MemAt K H' u (Mt.movedR rs p).1 → Q u H') : tCallI (He.ga K "Memory") (spMemCall K) E (tVar i) (tCons (tVar j) tNil) σ H Q := by
  obtain ⟨x, dx, t, rfl, hx, ht⟩ := id m
  exact ⟨_, h, x, rfl, _, hp, ⟨dx, _, hx⟩, _, rs, p, rfl, m, ok, hl, h0, h1, k⟩
theorem t_prop {C : Addr} {sp : Sp} {te : TE} (h : te σ H (fun x H1 => ∃ a dx fs, x = .ref a ∧ H1 a = some (.ins C dx fs) ∧ sp (.ref a :: []) H1 Q E)) : tProp C sp [] E te σ H Q := h
theorem t_call {sp : Sp} {ds : List V} {ts : TA} (h : ts σ H (fun vs H1 => sp (vs ++ ds) H1 Q E)) : tCall sp ds E ts σ H Q := h
theorem t_cons {te : TE} {ts : TA} {R : List V → Hp → Prop} (h : te σ H (fun x H1 => ts σ H1 (fun xs H2 => R (x :: xs) H2))) : tCons te ts σ H R := h
theorem t_test {te : TE} {R : Bool → Hp → Prop} (h : te σ H (fun x H' => ∃ k, x = .bl k ∧ R k H')) : tTest te σ H R := h
theorem t_op {r : R2} {ta tb : TE} (h : ta σ H (fun x H1 => tb σ H1 (fun y H2 => r x y H2 Q))) : tOp r ta tb σ H Q := h
theorem t_b {te : TE} {R : Bool → Hp → Prop} (h : te σ H (fun x H1 => ∃ c, x = .bl c ∧ R c H1)) : tB te σ H R := h
theorem t_notN {te : TE} (h : te σ H (fun x H1 => Q (.bl (!decide (x = .non))) H1)) : tNotN te σ H Q := h
theorem t_isN {te : TE} (h : te σ H (fun x H1 => Q (.bl (decide (x = .non))) H1)) : tIsN te σ H Q := h
theorem t_cb {r : List V → Hp → VK → Prop} {ts : TA} (h : ts σ H (fun vs H1 => r vs H1 Q)) : tCB r ts σ H Q := h
theorem v_len (h : σ[i]? = some (some v)) (m : MemAt K H v rs) (hl : rs.length ≤ 1000000) (k : Q (.int (rs.length : Nat)) H) : tCB (rLenI (He.ga K "Memory") (spMemLen K) E) (tCons (tVar i) tNil) σ H Q := ⟨_, h, r_len m hl k⟩
theorem v_lenU {p : Addr} {ys : List V} (h : σ[i]? = some (some (.ref p))) (m : seqH H p ys) (k : Q (.int ys.length) H) : tCB rLenU (tCons (tVar i) tNil) σ H Q := ⟨_, h, p, ys, rfl, m, k⟩
theorem MemAt.keep {d : Addr} {ys : List V} {o : HO} (m : MemAt K H v rs) (hd : H d = some (.lst ys)) : MemAt K (upd H d o) v rs := by
  obtain ⟨x, dx, t, rfl, hx, ht⟩ := m
  refine ⟨x, dx, t, rfl, ?_, ?_⟩
  · rw [upd_ne (ne_of hx hd (by intro z; cases z))]; exact hx
  · unfold TupR; rw [upd_ne (ne_of ht hd (by intro z; cases z))]; exact ht
end
def spRandom (K : PySem.W.Frag) : Sp := fun vs H Q _ => ∃ (a : Addr) (ns : List Int) (n : Int), vs = [.ref a, .int n] ∧ SqL K H a (ns.map V.int) ∧ ns.length ≤ 63 ∧ 0 ≤ n ∧
  ∀ p st H', Same H H' → H p = none → H' p = some (.lst (List.map V.int st)) → StOk st → Q (.ref p) H'
def RaW (H : Hp) (a : Addr) (n : Int) (_ : Nat) (σ' : L2.St) (H' : Hp) : Prop := ∃ (z : Int) (u : Option V), σ' = [some (.ref a), some (.int n), some (.int z), u] ∧ 0 ≤ z ∧ H' = H
def RaC (H1 : Hp) (D : Addr) (i : Nat) (H' : Hp) : Prop := Same H1 H' ∧ ∃ acc : List Int, H' D = some (.lst (List.map V.int acc)) ∧ acc.length ≤ i ∧ ∀ x ∈ acc, 0 ≤ x
theorem sc_L_random : FnScope ["_law_script", "_law_salt", "_law_seed", "_law_cell"] ["_law_script", "_law_salt"] (defScope s_L_random) := ⟨rfl, rfl, rfl, by decide +kernel, rfl, by decide +kernel, by decide +kernel⟩
theorem fn_L_random (S : SayL K mg) : Fn P w K mg base CX0 1 "_law_random" ["_law_script", "_law_salt"] (spRandom K) := by
  refine fn_mk s_L_random S 39 38 rfl rfl sc_L_random (fun _ _ _ _ _ _ us hl => match us, hl with | [_, _], _ => rfl) (fun vs H Q E h => ?_) (fun f cdv A outer s H vs Q E hr h => ?_)
  · obtain ⟨_, _, _, rfl, _⟩ := h; rfl
  · have hr0 := hr
    have hu := hu_of hr
    refine ⟨_, (pss_cons (ps_set (i := 2) sc_L_random.nd rfl (by first | exact Or.inl rfl | exact Or.inr rfl) (pv 1))
      (pss_cons (ps_for PassesOwn.never rfl (pi_list (pv 0)) (pg_name (i := 3) sc_L_random.nd rfl (by first | exact Or.inl rfl | exact Or.inr rfl)) (pss_one (ps_set (i := 2) sc_L_random.nd rfl (by first | exact Or.inl rfl | exact Or.inr rfl) (pe_op op_mod (pe_callTy call_int1 (by rfl) (S_int S) (by decide +kernel) (pa_cons (pe_op op_add (pe_op op_mul (pv 2) pe_int) (pe_callB call_abs (by rfl) (S_abs S) (by decide +kernel) (pa_cons (pv 3) pa_nil))) pa_nil)) pe_int))))
      (pss_one (ps_ret (pe_op op_cat (pe_lst (pa_cons (pv 2) (pa_cons pe_int pa_nil))) (pe_lc (own := [("_law_cell", 3)]) rfl sc_L_random.nd (pi_list (pv 0)) (blkOk_by (N := ["_law_script", "_law_salt", "_law_seed", "_law_cell"]) (sc := defScope s_L_random) (by decide +kernel)) (fun _ _ _ _ _ => (pg_name (i := 3) sc_L_random.nd rfl (by first | exact Or.inl rfl | exact Or.inr rfl))) (fun _ _ _ _ _ => (pts_one (pt_cmpR op_ge (pv 3) (pe_op op_pow pe_int pe_int) (nomark _)))) (fun _ _ _ _ _ => (pv 3)))))))), ?_⟩
    obtain ⟨a, ns, n, rfl, ha, hl, hn, k⟩ := h
    simp only [L2.start, List.map_cons, List.map_nil, List.length_cons, List.length_nil, List.replicate, Nat.reduceAdd, Nat.reduceSub, List.cons_append, List.nil_append]
    rw [tSeq_ap, tAsg_ap]
    simp only [tOp, tUn, tVar, tC, tAnd, tOr, tNot, tTest, tB, tCB, tCons, tNil, tBM, tBM0, tBML, tBML0, tAndV, tOrV, tNotV, tIf, tIfT, tChain, tPart, tNoPart, tSl, tTup, tLst, tYes, tIsN, tNotN, tCall, StX.tStar, rI, rI0, rU, rIxU, rLenU, rListU, rTupU, rSlLU, rIsK, kdOf, isK, rEq, rNe, rAppend, rExtend, rPopG, List.getLast?_map, List.getLast?_reverse, List.head?_cons, dropLast_rev, rPopAt, rSetL, rCat, gSub, gName, ipI, scal_int, scal_bl, scal_str, CMul, CDiv, CPow, List.getElem?_cons_succ, List.getElem?_cons_zero, List.set_cons_succ, List.set_cons_zero, List.append_nil, Option.some.injEq, V.int.injEq, V.bl.injEq, V.ref.injEq, V.str.injEq, HO.lst.injEq, HO.tup.injEq, List.cons.injEq, List.cons_ne_nil, and_true, true_and, exists_eq_left, exists_eq_left', exists_and_left, exists_eq', exists_eq, exists_const, reduceCtorEq, false_or, or_false, false_and, and_false, exists_false, seqH, List.length_cons, List.length_nil, List.length_map, List.length_reverse, cx_K, atI_tr1, atI_tr2, cutV_tr2, Option.map_some, upd_same, upd_upd]
    rw [tSeq_ap]
    refine ⟨_, rfl, a, rfl, ⟨_, ha⟩, for_it (walk_list (xs := ns.map V.int)) (RaW H a n) ⟨n, _, rfl, hn, rfl⟩ (fun i σ' H' _ p => by obtain ⟨_, _, _, _, rfl⟩ := p; exact ha) ?_ ?_⟩
    · rintro i x σ' H' H2 hi ⟨z, u, rfl, hz, rfl⟩ ⟨rfl, hx⟩
      rw [List.length_map] at hi
      rw [List.getElem?_map, List.getElem?_eq_getElem hi] at hx
      cases hx
      simp only [gName]
      rw [tAsg_ap]
      simp only [tOp, tUn, tVar, tC, tAnd, tOr, tNot, tTest, tB, tCB, tCons, tNil, tBM, tBM0, tBML, tBML0, tAndV, tOrV, tNotV, tIf, tIfT, tChain, tPart, tNoPart, tSl, tTup, tLst, tYes, tIsN, tNotN, tCall, StX.tStar, rI, rI0, rU, rIxU, rLenU, rListU, rTupU, rSlLU, rIsK, kdOf, isK, rEq, rNe, rAppend, rExtend, rPopG, List.getLast?_map, List.getLast?_reverse, List.head?_cons, dropLast_rev, rPopAt, rSetL, rCat, gSub, gName, ipI, scal_int, scal_bl, scal_str, CMul, CDiv, CPow, List.getElem?_cons_succ, List.getElem?_cons_zero, List.set_cons_succ, List.set_cons_zero, List.append_nil, Option.some.injEq, V.int.injEq, V.bl.injEq, V.ref.injEq, V.str.injEq, HO.lst.injEq, HO.tup.injEq, List.cons.injEq, List.cons_ne_nil, and_true, true_and, exists_eq_left, exists_eq_left', exists_and_left, exists_eq', exists_eq, exists_const, reduceCtorEq, false_or, or_false, false_and, and_false, exists_false, seqH, List.length_cons, List.length_nil, List.length_map, List.length_reverse, cx_K, atI_tr1, atI_tr2, cutV_tr2, Option.map_some, upd_same, upd_upd]
      exact ⟨.inr ⟨by decide, by decide⟩, by decide, _, _, rfl, Int.emod_nonneg _ (by decide), rfl⟩
    · rintro σ' H' ⟨z, u, rfl, hz, rfl⟩
      dsimp only
      rw [tRet_ap]
      simp only [tOp, tLst, tCons, tNil, tVar, tC, List.getElem?_cons_zero, List.getElem?_cons_succ, Option.some.injEq, exists_eq_left']
      refine ⟨by simp [sizeLine], fun p hp => ?_⟩
      have e1 : Same H' (upd H' p (.lst [.int z, .int 0])) := same_upd hp
      have hp1 : upd H' p (.lst [.int z, .int 0]) p = some (.lst [.int z, .int 0]) := upd_same
      have ha1 := e1.seq ha
      generalize upd H' p (.lst [.int z, .int 0]) = H1 at *
      refine ⟨_, rfl, a, rfl, ⟨_, ha1⟩, fun D hD => lc_it (walk_list (xs := ns.map V.int)) (RaC H1 D) ⟨same_upd hD, [], upd_same, by simp, by simp⟩ (fun i H' _ p => p.1.seq ha1) ?_ ?_⟩
      · rintro i x H2 H3 hi ⟨e2, acc, hacc, hlen, hpos⟩ ⟨rfl, hx⟩
        rw [List.length_map] at hi
        rw [List.getElem?_map, List.getElem?_eq_getElem hi] at hx
        cases hx
        simp only [wipe, List.map_cons, List.map_nil, tOp, tUn, tVar, tC, tAnd, tOr, tNot, tTest, tB, tCB, tCons, tNil, tBM, tBM0, tBML, tBML0, tAndV, tOrV, tNotV, tIf, tIfT, tChain, tPart, tNoPart, tSl, tTup, tLst, tYes, tIsN, tNotN, tCall, StX.tStar, rI, rI0, rU, rIxU, rLenU, rListU, rTupU, rSlLU, rIsK, kdOf, isK, rEq, rNe, rAppend, rExtend, rPopG, List.getLast?_map, List.getLast?_reverse, List.head?_cons, dropLast_rev, rPopAt, rSetL, rCat, gSub, gName, ipI, scal_int, scal_bl, scal_str, CMul, CDiv, CPow, List.getElem?_cons_succ, List.getElem?_cons_zero, List.set_cons_succ, List.set_cons_zero, List.append_nil, Option.some.injEq, V.int.injEq, V.bl.injEq, V.ref.injEq, V.str.injEq, HO.lst.injEq, HO.tup.injEq, List.cons.injEq, List.cons_ne_nil, and_true, true_and, exists_eq_left, exists_eq_left', exists_and_left, exists_eq', exists_eq, exists_const, reduceCtorEq, false_or, or_false, false_and, and_false, exists_false, seqH, List.length_cons, List.length_nil, List.length_map, List.length_reverse, cx_K, atI_tr1, atI_tr2, cutV_tr2, Option.map_some, upd_same, upd_upd]
        refine ⟨by decide, ?_⟩
        split
        · rename_i c
          have c' : (10 : Int) ^ (18 : Int).toNat ≤ ns[i] := of_decide_eq_true c
          simp only [tOp, tUn, tVar, tC, tAnd, tOr, tNot, tTest, tB, tCB, tCons, tNil, tBM, tBM0, tBML, tBML0, tAndV, tOrV, tNotV, tIf, tIfT, tChain, tPart, tNoPart, tSl, tTup, tLst, tYes, tIsN, tNotN, tCall, StX.tStar, rI, rI0, rU, rIxU, rLenU, rListU, rTupU, rSlLU, rIsK, kdOf, isK, rEq, rNe, rAppend, rExtend, rPopG, List.getLast?_map, List.getLast?_reverse, List.head?_cons, dropLast_rev, rPopAt, rSetL, rCat, gSub, gName, ipI, scal_int, scal_bl, scal_str, CMul, CDiv, CPow, List.getElem?_cons_succ, List.getElem?_cons_zero, List.set_cons_succ, List.set_cons_zero, List.append_nil, Option.some.injEq, V.int.injEq, V.bl.injEq, V.ref.injEq, V.str.injEq, HO.lst.injEq, HO.tup.injEq, List.cons.injEq, List.cons_ne_nil, and_true, true_and, exists_eq_left, exists_eq_left', exists_and_left, exists_eq', exists_eq, exists_const, reduceCtorEq, false_or, or_false, false_and, and_false, exists_false, seqH, List.length_cons, List.length_nil, List.length_map, List.length_reverse, cx_K, atI_tr1, atI_tr2, cutV_tr2, Option.map_some, upd_same, upd_upd, hacc]
          refine ⟨by simp [sizeLine]; omega, e2.updN hD, acc ++ [ns[i]], by rw [upd_same]; simp, by simp; omega, ?_⟩
          intro x hx
          rcases List.mem_append.mp hx with hx | hx
          · exact hpos x hx
          · have : x = ns[i] := by simpa using hx
            rw [this]
            have : (0 : Int) ≤ 10 ^ (18 : Int).toNat := by decide
            omega
        · exact ⟨e2, acc, hacc, by omega, hpos⟩
      · rintro H2 ⟨e2, acc, hacc, hlen, hpos⟩
        rw [List.length_map] at hlen
        refine ⟨p, D, _, _, rfl, rfl, e2 _ _ hp1, hacc, by simp [sizeLine]; omega, fun q hq => ?_⟩
        refine k q (z :: 0 :: acc) _ ((e1.trans e2).new hq) ((e1.trans e2).free hq) ?_ ⟨z, 0, acc, rfl, hz, by decide, hpos⟩
        rw [upd_same]
        rfl
def spLawMem : Sp := fun vs H Q _ => ∃ (a : Addr) (row : List Int), vs = [.ref a] ∧ H a = some (.lst (List.map V.int row)) ∧ row.length ≤ 1000 ∧
  ∀ t ps H', Same H H' → H' t = some (.tup (List.map V.int ps)) → Mt.LM true (0 :: row) ps → Q (.ref t) H'
def LmW (H : Hp) (a q fl : Addr) (row : List Int) (m : Nat) (σ' : L2.St) (H' : Hp) : Prop := ∃ (at_ : Nat) (low : Bool) (fs : List Int) (u1 u2 u3 u4 : Option V),
  σ' = [some (.ref a), some (.ref q), some (.ref fl), some (.int (at_ : Nat)), some (.bl low), u1, u2, u3, u4] ∧ Same H H' ∧ H' q = some (.lst (List.map V.int (0 :: row))) ∧ H' fl = some (.lst (List.map V.int fs)) ∧
  at_ < row.length + 1 ∧ (∀ ps, Mt.LM low ((0 :: row).drop at_) ps → Mt.LM true (0 :: row) (fs ++ ps)) ∧ fs.length + m ≤ 2 * (row.length + 1) + 1 ∧
  ((at_ = 0 ∧ m = 2 * (row.length + 1) + 1) ∨ (m = 2 * (row.length + 1 - at_) ∧ ∀ b v, (0 :: row).drop at_ = b :: v → ∀ x ∈ v, ¬ Mt.trig low b x = false ∧ x ≠ b))
theorem cut_from (xs : List Int) (k : Nat) (h : k ≤ xs.length) : cutV (List.map V.int xs) (some (k : Int)) none = List.map V.int (xs.drop k) := by
  unfold cutV
  have e : HT.sIx (List.map V.int xs).length 0 (some (k : Int)) = k := by rw [HT.sIx_nat]; simp; omega
  have e2 : HT.sIx (List.map V.int xs).length (List.map V.int xs).length none = xs.length := by unfold HT.sIx; simp
  rw [e, e2, ← List.map_drop, ← List.map_take, List.take_of_length_le (by simp)]
theorem ext_val {σ : L2.St} {H : Hp} {low : Bool} {lf : Addr} {left : List Int} {Qk : VK} (h4 : σ[4]? = some (some (.bl low))) (h5 : σ[5]? = some (some (.ref lf))) (hl : H lf = some (.lst (List.map V.int left))) (hne : left ≠ [])
    (h : ∀ pl, pl ∈ left → (∀ x ∈ left, Mt.trig low x pl = true) → Qk (.int pl) H) : tIf (tB (tVar 4)) (tCB rMinU (tCons (tVar 5) tNil)) (tCB rMaxU (tCons (tVar 5) tNil)) σ H Qk := by
  refine ⟨_, h4, low, rfl, ?_⟩
  have hpos : 0 < left.length := List.length_pos_iff.mpr hne
  cases low with
  | true =>
    dsimp only
    rw [if_pos rfl]
    exact ⟨_, h5, lf, left, rfl, .inl hl, hpos, fun m hm hx => h m hm (fun x hx' => by simpa [Mt.trig] using hx x hx')⟩
  | false =>
    dsimp only
    rw [if_neg (by decide)]
    exact ⟨_, h5, lf, left, rfl, .inl hl, hpos, fun m hm hx => h m hm (fun x hx' => by simpa [Mt.trig] using hx x hx')⟩
/-- the indexes below i at which x stands -/
def ixs (l : List Int) (x : Int) (i : Nat) : List Nat := (List.range i).filter fun k => decide (l[k]? = some x)
theorem ixs_succ (l : List Int) (x : Int) (i : Nat) : ixs l x (i + 1) = ixs l x i ++ (if l[i]? = some x then [i] else []) := by
  unfold ixs
  rw [List.range_succ, List.filter_append]
  congr 1
  simp only [List.filter_cons, List.filter_nil]
  by_cases c : l[i]? = some x <;> simp [c]
theorem ixs_len (l : List Int) (x : Int) (i : Nat) : (ixs l x i).length ≤ i := by
  unfold ixs
  have := List.length_filter_le (fun k => decide (l[k]? = some x)) (List.range i)
  simpa using this
theorem ixs_last (l : List Int) (x : Int) : ∀ i, x ∈ l.take i → ∃ j, j < i ∧ (ixs l x i).reverse[0]? = some j ∧ l[j]? = some x ∧ ∀ k, j < k → k < i → l[k]? ≠ some x
  | 0, h => by simp at h
  | i + 1, h => by
    rw [ixs_succ]
    by_cases c : l[i]? = some x
    · refine ⟨i, Nat.lt_succ_self i, ?_, c, fun k h1 h2 => by omega⟩
      rw [if_pos c]; simp
    · have h' : x ∈ l.take i := by
        rw [List.take_add_one] at h
        rcases List.mem_append.mp h with h | h
        · exact h
        · exfalso
          cases e : l[i]? with
          | none => rw [e] at h; simp at h
          | some y =>
            rw [e] at h
            have : x = y := by simpa using h
            rw [e, this] at c
            exact c rfl
      obtain ⟨j, h1, h2, h3, h4⟩ := ixs_last l x i h'
      refine ⟨j, by omega, ?_, h3, fun k a b => ?_⟩
      · rw [if_neg c, List.append_nil]; exact h2
      · by_cases e : k = i
        · rw [e]; exact c
        · exact h4 k a (by omega)
/-- the same data, to a depth -/
def Eqd : Nat → Hp → V → V → Prop
  | 0, _, v, u => v = u ∧ (v = .non ∨ (∃ b, v = .bl b) ∨ (∃ i, v = .int i) ∨ ∃ x, v = .str x)
  | n + 1, H, v, u => (v = u ∧ (v = .non ∨ (∃ b, v = .bl b) ∨ (∃ i, v = .int i) ∨ ∃ x, v = .str x)) ∨
    ∃ a b xs ys, v = .ref a ∧ u = .ref b ∧ ((H a = some (.lst xs) ∧ H b = some (.lst ys)) ∨ (H a = some (.tup xs) ∧ H b = some (.tup ys))) ∧ xs.length = ys.length ∧ xs.length ≤ 100000 ∧ ∀ (i : Nat) x y, xs[i]? = some x → ys[i]? = some y → Eqd n H x y
theorem Eqd.same {H H' : Hp} (e : Same H H') : ∀ {n : Nat} {v u : V}, Eqd n H v u → Eqd n H' v u
  | 0, v, u, h => h
  | n + 1, v, u, h => by
    rcases h with h | ⟨a, b, xs, ys, h1, h2, h3, h4, h5, h6⟩
    · exact .inl h
    · exact .inr ⟨a, b, xs, ys, h1, h2, h3.elim (fun h => .inl ⟨e _ _ h.1, e _ _ h.2⟩) (fun h => .inr ⟨e _ _ h.1, e _ _ h.2⟩), h4, h5, fun i x y hx hy => Eqd.same e (h6 i x y hx hy)⟩
theorem Eqd.int {n : Nat} {H : Hp} (i : Int) : Eqd n H (.int i) (.int i) := by
  cases n with
  | zero => exact ⟨rfl, .inr (.inr (.inl ⟨i, rfl⟩))⟩
  | succ n => exact .inl ⟨rfl, .inr (.inr (.inl ⟨i, rfl⟩))⟩
theorem Eqd.bl {n : Nat} {H : Hp} (i : Bool) : Eqd n H (.bl i) (.bl i) := by
  cases n with
  | zero => exact ⟨rfl, .inr (.inl ⟨i, rfl⟩)⟩
  | succ n => exact .inl ⟨rfl, .inr (.inl ⟨i, rfl⟩)⟩
theorem Eqd.non {n : Nat} {H : Hp} : Eqd n H .non .non := by
  cases n with
  | zero => exact ⟨rfl, .inl rfl⟩
  | succ n => exact .inl ⟨rfl, .inl rfl⟩
theorem Eqd.lst {n : Nat} {H : Hp} {a b : Addr} {xs ys : List V} (ha : H a = some (.lst xs)) (hb : H b = some (.lst ys)) (hl : xs.length = ys.length) (hz : xs.length ≤ 100000) (h : ∀ (i : Nat) x y, xs[i]? = some x → ys[i]? = some y → Eqd n H x y) : Eqd (n + 1) H (.ref a) (.ref b) :=
  .inr ⟨a, b, xs, ys, rfl, rfl, .inl ⟨ha, hb⟩, hl, hz, h⟩
theorem Eqd.tup {n : Nat} {H : Hp} {a b : Addr} {xs ys : List V} (ha : H a = some (.tup xs)) (hb : H b = some (.tup ys)) (hl : xs.length = ys.length) (hz : xs.length ≤ 100000) (h : ∀ (i : Nat) x y, xs[i]? = some x → ys[i]? = some y → Eqd n H x y) : Eqd (n + 1) H (.ref a) (.ref b) :=
  .inr ⟨a, b, xs, ys, rfl, rfl, .inr ⟨ha, hb⟩, hl, hz, h⟩
theorem eqd_at {n : Nat} {H : Hp} (ns : List Int) : ∀ (i : Nat) x y, (List.map V.int ns)[i]? = some x → (List.map V.int ns)[i]? = some y → Eqd n H x y := fun i x y hx hy => by
  rw [hx] at hy
  cases hy
  rw [List.getElem?_map] at hx
  cases e : ns[i]? with
  | none => rw [e] at hx; cases hx
  | some z => rw [e] at hx; cases hx; exact .int z
theorem Eqd.ints {n : Nat} {H : Hp} {a b : Addr} {ns : List Int} (ha : H a = some (.lst (List.map V.int ns))) (hb : H b = some (.lst (List.map V.int ns))) (hz : ns.length ≤ 100000) : Eqd (n + 1) H (.ref a) (.ref b) := .lst ha hb rfl (by simpa using hz) (eqd_at ns)
theorem Eqd.tints {n : Nat} {H : Hp} {a b : Addr} {ns : List Int} (ha : H a = some (.tup (List.map V.int ns))) (hb : H b = some (.tup (List.map V.int ns))) (hz : ns.length ≤ 100000) : Eqd (n + 1) H (.ref a) (.ref b) := .tup ha hb rfl (by simpa using hz) (eqd_at ns)
inductive EqAll (n : Nat) (H : Hp) : List V → List V → Prop
  | nil : EqAll n H [] []
  | cons {x y : V} {xs ys : List V} : Eqd n H x y → EqAll n H xs ys → EqAll n H (x :: xs) (y :: ys)
theorem EqAll.len {n : Nat} {H : Hp} : ∀ {xs ys : List V}, EqAll n H xs ys → xs.length = ys.length
  | _, _, .nil => rfl
  | _, _, .cons _ h => by simp [EqAll.len h]
theorem EqAll.at_ {n : Nat} {H : Hp} : ∀ {xs ys : List V}, EqAll n H xs ys → ∀ (i : Nat) x y, xs[i]? = some x → ys[i]? = some y → Eqd n H x y
  | _, _, .nil, i, x, y, hx, hy => by simp at hx
  | _, _, .cons h0 h, 0, x, y, hx, hy => by simp at hx hy; subst hx hy; exact h0
  | _, _, .cons h0 h, i + 1, x, y, hx, hy => EqAll.at_ h i x y (by simpa using hx) (by simpa using hy)
theorem Eqd.lsts {n : Nat} {H : Hp} {a b : Addr} {xs ys : List V} (ha : H a = some (.lst xs)) (hb : H b = some (.lst ys)) (hz : xs.length ≤ 100000) (h : EqAll n H xs ys) : Eqd (n + 1) H (.ref a) (.ref b) := .lst ha hb h.len hz h.at_
theorem Eqd.tups {n : Nat} {H : Hp} {a b : Addr} {xs ys : List V} (ha : H a = some (.tup xs)) (hb : H b = some (.tup ys)) (hz : xs.length ≤ 100000) (h : EqAll n H xs ys) : Eqd (n + 1) H (.ref a) (.ref b) := .tup ha hb h.len hz h.at_
def spEqual : Nat → Sp
  | 0 => fun _ _ _ _ => False
  | n + 1 => fun vs H Q _ => ∃ v u, vs = [v, u] ∧ Eqd n H v u ∧ ∀ H', Same H H' → Q (.bl true) H'
def EqW (H : Hp) (D : Addr) (i : Nat) (H' : Hp) : Prop := Same H H' ∧ H' D = some (.lst (List.map V.bl (List.replicate i true)))
/-- all but d is kept -/
def SameD (d : Addr) (H H' : Hp) : Prop := ∀ b o, b ≠ d → H b = some o → H' b = some o
theorem SameD.refl (d : Addr) (H : Hp) : SameD d H H := fun _ _ _ h => h
theorem SameD.trans {d : Addr} {H H' H'' : Hp} (a : SameD d H H') (b : SameD d H' H'') : SameD d H H'' := fun x o n h => b x o n (a x o n h)
theorem SameD.of {d : Addr} {H H' : Hp} (e : Same H H') : SameD d H H' := fun x o _ h => e x o h
theorem SameD.upd {d : Addr} {H H' : Hp} {o : HO} (e : SameD d H H') : SameD d H (upd H' d o) := fun x o' n h => by rw [upd_ne n]; exact e x o' n h
def RowD (K : PySem.W.Frag) (d : Addr) (st : List Int) (H : Hp) : Prop := H d = some (.lst (List.map V.int st)) ∧ StOk st
def spLawRow : Sp := fun vs H Q _ => ∃ (d : Addr) (st : List Int) (m f : Int), vs = [.ref d, .int m, .int f] ∧ H d = some (.lst (List.map V.int st)) ∧ StOk st ∧ 0 ≤ m ∧ m ≤ 1000 ∧ 0 ≤ f ∧ f ≤ 1000000 ∧
  ∀ p row st' H', SameD d H H' → H p = none → H' p = some (.lst (List.map V.int row)) → p ≠ d → H' d = some (.lst (List.map V.int st')) → StOk st' → row.length ≤ m → (∀ x ∈ row, -f ≤ x ∧ x ≤ f) → Q (.ref p) H'
def LrW (H : Hp) (d D : Addr) (f : Int) (i : Nat) (H' : Hp) : Prop := ∃ (st acc : List Int), SameD d H H' ∧ H' d = some (.lst (List.map V.int st)) ∧ StOk st ∧ H' D = some (.lst (List.map V.int acc)) ∧ acc.length = i ∧ ∀ x ∈ acc, -f ≤ x ∧ x ≤ f
theorem sc_L_row : FnScope ["_law_d", "_law_most", "_law_far", "_law_low", "_law_k"] ["_law_d", "_law_most", "_law_far"] (defScope s_L_row) := ⟨rfl, rfl, rfl, by decide +kernel, rfl, by decide +kernel, by decide +kernel⟩
theorem fn_L_row (S : SayL K mg) : Fn P w K mg base CX0 3 "_law_row" ["_law_d", "_law_most", "_law_far"] spLawRow := by
  have F_L_below := fn_L_below (P := P) (w := w) (base := base) S
  refine fn_mk s_L_row S 41 40 rfl rfl sc_L_row (fun _ _ _ _ _ _ us hl => match us, hl with | [_, _, _], _ => rfl) (fun vs H Q E h => ?_) (fun f cdv A outer s H vs Q E hr h => ?_)
  · obtain ⟨_, _, _, _, rfl, _⟩ := h; rfl
  · have hr0 := hr
    have hu := hu_of hr
    have hr_L_below : Room 1 _ := hr.mono (by decide)
    have hr1_L_below : Room 2 _ := hr.mono (by decide)
    refine ⟨_, (pss_cons (ps_set (i := 3) sc_L_row.nd rfl (by first | exact Or.inl rfl | exact Or.inr rfl) (pe_ix ix_u (pe_lst (pa_cons pe_int (pa_cons (pe_op op_sub pe_int (pv 2)) pa_nil))) (pe_fn F_L_below hr_L_below pass0 (pa_cons (pv 0) (pa_cons pe_int pa_nil))) (fun _ _ => rfl)))
      (pss_one (ps_ret (pe_lc (own := [("_law_k", 4)]) rfl sc_L_row.nd (pi_range1 (by rfl) (S_range S) (pa_cons (pe_fn F_L_below hr_L_below pass0 (pa_cons (pv 0) (pa_cons (pe_op op_add (pv 1) pe_int) pa_nil))) pa_nil)) (blkOk_by (N := ["_law_d", "_law_most", "_law_far", "_law_low", "_law_k"]) (sc := defScope s_L_row) (by decide +kernel)) (fun _ _ _ _ _ => (pg_name (i := 4) sc_L_row.nd rfl (by first | exact Or.inl rfl | exact Or.inr rfl))) (fun _ _ _ _ _ => pts_nil) (fun _ _ _ _ _ => (pe_op op_add (pv 3) (pe_fn F_L_below hr_L_below pass0 (pa_cons (pv 0) (pa_cons (pe_op op_add (pe_op op_sub (pv 2) (pv 3)) pe_int) pa_nil))))))))), ?_⟩
    obtain ⟨d, st, m, f, rfl, hd, hst, hm0, hm1, hf0, hf1, k⟩ := h
    simp only [L2.start, List.map_cons, List.map_nil, List.length_cons, List.length_nil, List.replicate, Nat.reduceAdd, Nat.reduceSub, List.cons_append, List.nil_append]
    rw [tSeq_ap, tAsg_ap]
    simp only [tOp, tUn, tVar, tC, tAnd, tOr, tNot, tTest, tB, tCB, tCons, tNil, tBM, tBM0, tBML, tBML0, tAndV, tOrV, tNotV, tIf, tIfT, tChain, tPart, tNoPart, tSl, tTup, tLst, tYes, tIsN, tNotN, tCall, StX.tStar, rI, rI0, rU, rIxU, rLenU, rListU, rTupU, rSlLU, rIsK, kdOf, isK, rEq, rNe, rAppend, rExtend, rPopG, List.getLast?_map, List.getLast?_reverse, List.head?_cons, dropLast_rev, rPopAt, rSetL, rCat, gSub, gName, ipI, scal_int, scal_bl, scal_str, CMul, CDiv, CPow, List.getElem?_cons_succ, List.getElem?_cons_zero, List.set_cons_succ, List.set_cons_zero, List.append_nil, Option.some.injEq, V.int.injEq, V.bl.injEq, V.ref.injEq, V.str.injEq, HO.lst.injEq, HO.tup.injEq, List.cons.injEq, List.cons_ne_nil, and_true, true_and, exists_eq_left, exists_eq_left', exists_and_left, exists_eq', exists_eq, exists_const, reduceCtorEq, false_or, or_false, false_and, and_false, exists_false, seqH, List.length_cons, List.length_nil, List.length_map, List.length_reverse, cx_K, atI_tr1, atI_tr2, cutV_tr2, Option.map_some, upd_same, upd_upd]
    refine ⟨by decide, fun q hq => ?_⟩
    have hqd : q ≠ d := (ne_of_none hd hq).symm
    have e1 : SameD d H (upd H q (.lst [.int 0, .int (0 - f)])) := .of (same_upd hq)
    have hd2 : upd H q (.lst [.int 0, .int (0 - f)]) d = some (.lst (List.map V.int st)) := by rw [upd_ne hqd.symm]; exact hd
    have hq2 : upd H q (.lst [.int 0, .int (0 - f)]) q = some (.lst [.int 0, .int (0 - f)]) := upd_same
    have hn2 : ∀ b, upd H q (.lst [.int 0, .int (0 - f)]) b = none → H b = none := fun b hb => (same_upd hq).free hb
    generalize upd H q (.lst [.int 0, .int (0 - f)]) = H3 at *
    refine ⟨d, st, 2, rfl, hd2, hst, by decide, by decide, fun r1 st1 h10 h11 hs1 => ?_⟩
    have hd3 : upd H3 d (.lst (List.map V.int st1)) d = some (.lst (List.map V.int st1)) := upd_same
    have hq3 : upd H3 d (.lst (List.map V.int st1)) q = some (.lst [.int 0, .int (0 - f)]) := by rw [upd_ne hqd]; exact hq2
    have e3 : SameD d H (upd H3 d (.lst (List.map V.int st1))) := e1.upd
    have hn3 : ∀ b, upd H3 d (.lst (List.map V.int st1)) b = none → H b = none := fun b hb => hn2 b (by
      by_cases e : b = d
      · rw [e, upd_same] at hb; cases hb
      · rw [upd_ne e] at hb; exact hb)
    generalize upd H3 d (.lst (List.map V.int st1)) = H4 at *
    obtain ⟨lo, hlo, hlo0, hlo1⟩ : ∃ lo : Int, atI [V.int 0, V.int (0 - f)] r1 = some (.int lo) ∧ -f ≤ lo ∧ lo ≤ 0 := by
      have : r1 = 0 ∨ r1 = 1 := by omega
      rcases this with e | e
      · exact ⟨0, by rw [e, atI_zero], by omega, by decide⟩
      · exact ⟨0 - f, by rw [e, atI_one], by omega, by omega⟩
    refine ⟨_, r1, rfl, .inl hq3, _, hlo, ?_⟩
    rw [tRet_ap]
    refine ⟨_, rfl, _, rfl, m, 1, rfl, rfl, d, st1, _, rfl, hd3, hs1, by omega, by omega, fun n9 st2 h20 h21 hs2 => ⟨_, rfl, by omega, by omega, fun D hD => ?_⟩⟩
    have hd4 : upd H4 d (.lst (List.map V.int st2)) d = some (.lst (List.map V.int st2)) := upd_same
    have e4 : SameD d H (upd H4 d (.lst (List.map V.int st2))) := e3.upd
    have hn4 : ∀ b, upd H4 d (.lst (List.map V.int st2)) b = none → H b = none := fun b hb => hn3 b (by
      by_cases e : b = d
      · rw [e, upd_same] at hb; cases hb
      · rw [upd_ne e] at hb; exact hb)
    generalize upd H4 d (.lst (List.map V.int st2)) = H5 at *
    have hDd : D ≠ d := (ne_of_none hd4 hD).symm
    have hDH := hn4 D hD
    refine lc_it (walk_range (lo := 0) (n := n9.toNat)) (LrW H d D f) ⟨st2, [], fun b o hb h => ?_, by rw [upd_ne hDd.symm]; exact hd4, hs2, upd_same, rfl, by simp⟩ (fun _ _ _ _ => trivial) ?_ ?_
    · have := e4 b o hb h
      rw [upd_ne (ne_of_none this hD)]; exact this
    · rintro i x H6 H7 hi' ⟨st3, acc, e6, hd6, hs3, hD6, hac, hacb⟩ ⟨rfl, rfl⟩
      simp only [wipe, List.map_cons, List.map_nil, tOp, tUn, tVar, tC, tAnd, tOr, tNot, tTest, tB, tCB, tCons, tNil, tBM, tBM0, tBML, tBML0, tAndV, tOrV, tNotV, tIf, tIfT, tChain, tPart, tNoPart, tSl, tTup, tLst, tYes, tIsN, tNotN, tCall, StX.tStar, rI, rI0, rU, rIxU, rLenU, rListU, rTupU, rSlLU, rIsK, kdOf, isK, rEq, rNe, rAppend, rExtend, rPopG, List.getLast?_map, List.getLast?_reverse, List.head?_cons, dropLast_rev, rPopAt, rSetL, rCat, gSub, gName, ipI, scal_int, scal_bl, scal_str, CMul, CDiv, CPow, List.getElem?_cons_succ, List.getElem?_cons_zero, List.set_cons_succ, List.set_cons_zero, List.append_nil, Option.some.injEq, V.int.injEq, V.bl.injEq, V.ref.injEq, V.str.injEq, HO.lst.injEq, HO.tup.injEq, List.cons.injEq, List.cons_ne_nil, and_true, true_and, exists_eq_left, exists_eq_left', exists_and_left, exists_eq', exists_eq, exists_const, reduceCtorEq, false_or, or_false, false_and, and_false, exists_false, seqH, List.length_cons, List.length_nil, List.length_map, List.length_reverse, cx_K, atI_tr1, atI_tr2, cutV_tr2, Option.map_some, upd_same, upd_upd, if_true]
      refine ⟨d, st3, _, rfl, hd6, hs3, by omega, by omega, fun r st4 h30 h31 hs4 => ⟨r, rfl, ?_⟩⟩
      refine ⟨List.map V.int acc, by rw [upd_ne hDd]; exact hD6, by simp [sizeLine]; omega, st4, acc ++ [lo + r], ?_, ?_, hs4, ?_, by simp [hac], ?_⟩
      · intro b o hb h
        have hbD : b ≠ D := fun e => by rw [e, hDH] at h; cases h
        rw [upd_ne hbD]; exact e6.upd b o hb h
      · rw [upd_ne hDd.symm, upd_same]
      · rw [upd_same]; simp
      · intro x hx
        rcases List.mem_append.mp hx with hx | hx
        · exact hacb x hx
        · have : x = lo + r := by simpa using hx
          omega
    · rintro H6 ⟨st3, row, e6, hd6, hs3, hD6, hrl, hrb⟩
      exact k D row st3 H6 e6 hDH hD6 hDd hd6 hs3 (by omega) hrb
def spFew (K : PySem.W.Frag) : Sp := fun vs H Q _ => ∃ v u rs gs, vs = [v, u] ∧ MemAt K H v rs ∧ MemAt K H u gs ∧ Mt.MemOk rs ∧ Mt.MemOk gs ∧ rs.length ≤ 2000 ∧ gs.length ≤ 2000 ∧
  (Mt.fewF rs.reverse gs.reverse = none → ∀ H', Same H H' → Q .non H') ∧ ∀ m, Mt.fewF rs.reverse gs.reverse = some m → ∀ l H', Same H H' → H l = none → H' l = some (.lst (List.map V.int m)) → Q (.ref l) H'
theorem cut_fr (xs : List Int) (k : Nat) (h : k ≤ xs.length) : cutV (List.map V.int xs) (some (k : Int)) none = List.map V.int (xs.drop k) := by
  unfold cutV
  have e : HT.sIx (List.map V.int xs).length 0 (some (k : Int)) = k := by rw [HT.sIx_nat]; simp; omega
  have e2 : HT.sIx (List.map V.int xs).length (List.map V.int xs).length none = xs.length := by unfold HT.sIx; simp
  rw [e, e2, ← List.map_drop, ← List.map_take, List.take_of_length_le (by simp)]
theorem cut_to (xs : List Int) (k : Nat) (h : k ≤ xs.length) : cutV (List.map V.int xs) none (some (k : Int)) = List.map V.int (xs.take k) := by
  unfold cutV
  have e : HT.sIx (List.map V.int xs).length (List.map V.int xs).length (some (k : Int)) = k := by rw [HT.sIx_nat]; simp; omega
  have e2 : HT.sIx (List.map V.int xs).length 0 none = 0 := by unfold HT.sIx; simp
  rw [e, e2, List.drop_zero, ← List.map_take, Nat.sub_zero]
theorem MemAt.sameD {K : PySem.W.Frag} {H H' : Hp} {v : V} {rs : List Int} {d : Addr} {ys : List V} (m : MemAt K H v rs) (hd : H d = some (.lst ys)) (e : SameD d H H') : MemAt K H' v rs := by
  obtain ⟨x, dx, t, rfl, hx, ht⟩ := m
  exact ⟨x, dx, t, rfl, e _ _ (ne_of hx hd (by intro z; cases z)) hx, e _ _ (ne_of ht hd (by intro z; cases z)) ht⟩
theorem sp_few {K : PySem.W.Frag} {H : Hp} {v u : V} {rs gs m : List Int} {Q : VK} {E : XK} (hv : MemAt K H v rs) (hu : MemAt K H u gs) (ok : Mt.MemOk rs) (okg : Mt.MemOk gs) (hl1 : rs.length ≤ 2000) (hl2 : gs.length ≤ 2000) (hm : Mt.fewF rs.reverse gs.reverse = some m)
    (k : ∀ l H', Same H H' → H l = none → H' l = some (.lst (List.map V.int m)) → Q (.ref l) H') : spFew K [v, u] H Q E :=
  ⟨v, u, rs, gs, rfl, hv, hu, ok, okg, hl1, hl2, (fun z => by rw [hm] at z; cases z), fun m' hm' l H' e h1 h2 => by rw [hm] at hm'; cases hm'; exact k l H' e h1 h2⟩
theorem sp_fewN {K : PySem.W.Frag} {H : Hp} {v u : V} {rs gs : List Int} {Q : VK} {E : XK} (hv : MemAt K H v rs) (hu : MemAt K H u gs) (ok : Mt.MemOk rs) (okg : Mt.MemOk gs) (hl1 : rs.length ≤ 2000) (hl2 : gs.length ≤ 2000) (hm : Mt.fewF rs.reverse gs.reverse = none)
    (k : ∀ H', Same H H' → Q .non H') : spFew K [v, u] H Q E :=
  ⟨v, u, rs, gs, rfl, hv, hu, ok, okg, hl1, hl2, (fun _ => k), fun m' hm' => by rw [hm] at hm'; cases hm'⟩
def FeW (H : Hp) (v u : V) (a b : Addr) (ps ws : List Int) (i : Nat) (σ' : L2.St) (H' : Hp) : Prop := ∃ (u4 : Option V), σ' = [some v, some u, some (.ref a), some (.ref b), u4] ∧ Same H H' ∧ Mt.goF ps ws ws.length = Mt.goF ps ws (ws.length - i)
/-- the arms at t: pairs of slack and arm -/
def ArmsAt (H : Hp) (t : Addr) (arms : List (Int × Int)) : Prop := ∃ as : List Addr, H t = some (.tup (as.map V.ref)) ∧ as.length = arms.length ∧ ∀ (i : Nat) a w, as[i]? = some a → arms[i]? = some w → H a = some (.tup [.int w.1, .int w.2])
theorem ArmsAt.same {H H' : Hp} {t : Addr} {arms : List (Int × Int)} (e : Same H H') (h : ArmsAt H t arms) : ArmsAt H' t arms := by
  obtain ⟨as, h1, h2, h3⟩ := h
  exact ⟨as, e _ _ h1, h2, fun i a w x y => e _ _ (h3 i a w x y)⟩
theorem ArmsAt.sameD {H H' : Hp} {t d : Addr} {arms : List (Int × Int)} {ys : List V} (h : ArmsAt H t arms) (hd : H d = some (.lst ys)) (e : SameD d H H') : ArmsAt H' t arms := by
  obtain ⟨as, h1, h2, h3⟩ := h
  exact ⟨as, e _ _ (ne_of h1 hd (by intro z; cases z)) h1, h2, fun i a w x y => e _ _ (ne_of (h3 i a w x y) hd (by intro z; cases z)) (h3 i a w x y)⟩
/-- small enough to be multiplied -/
def ArmsOk (arms : List (Int × Int)) : Prop := arms.length ≤ 10000 ∧ ∀ w ∈ arms, -(2 ^ 62) < w.2 ∧ w.2 < 2 ^ 62
def spCurveOf : Sp := fun vs H Q _ => ∃ (t : Addr) (h : Int) (arms : List (Int × Int)), vs = [.ref t, .int h] ∧ ArmsAt H t arms ∧ ArmsOk arms ∧ ∀ H', Same H H' → Q (.int (Mt.curveA arms h)) H'
def CvW (H : Hp) (D : Addr) (f : Int × Int → Int) (arms : List (Int × Int)) (i : Nat) (H' : Hp) : Prop := Same H H' ∧ H' D = some (.lst (List.map V.int ((arms.take i).map f)))
theorem sc_curve_of : FnScope ["arms", "height", "slack", "arm"] ["arms", "height"] (defScope s_curve_of) := ⟨rfl, rfl, rfl, by decide +kernel, rfl, by decide +kernel, by decide +kernel⟩
theorem fn_curve_of (S : SayL K mg) : Fn P w K mg base CX0 1 "curve_of" ["arms", "height"] spCurveOf := by
  refine fn_mk s_curve_of S 14 25 rfl rfl sc_curve_of (fun _ _ _ _ _ _ us hl => match us, hl with | [_, _], _ => rfl) (fun vs H Q E h => ?_) (fun f cdv A outer s H vs Q E hr h => ?_)
  · obtain ⟨_, _, _, rfl, _⟩ := h; rfl
  · have hr0 := hr
    have hu := hu_of hr
    refine ⟨_, (pss_one (ps_ret (pe_callB (cr_sum rfl) (by rfl) (S_sum S) (by decide +kernel) (pa_cons (pe_lc (own := [("slack", 2), ("arm", 3)]) rfl sc_curve_of.nd (pi_tup (pv 0)) (blkOk_by (N := ["arms", "height", "slack", "arm"]) (sc := defScope s_curve_of) (by decide +kernel)) (fun _ _ _ _ _ => (pg_tupK (K := K) 2 rfl rfl (pgs_cons (pg_name (i := 2) sc_curve_of.nd rfl (by first | exact Or.inl rfl | exact Or.inr rfl)) (pgs_cons (pg_name (i := 3) sc_curve_of.nd rfl (by first | exact Or.inl rfl | exact Or.inr rfl)) pgs_nil)))) (fun _ _ _ _ _ => pts_nil) (fun _ _ _ _ _ => (pe_op op_mul (pe_callTy call_int1 (by rfl) (S_int S) (by decide +kernel) (pa_cons (pv 3) pa_nil)) (pe_callB (call_max2 rfl) (by rfl) (S_max S) (by decide +kernel) (pa_cons pe_int (pa_cons (pe_op op_sub (pe_callTy call_int1 (by rfl) (S_int S) (by decide +kernel) (pa_cons (pv 1) pa_nil)) (pe_callTy call_int1 (by rfl) (S_int S) (by decide +kernel) (pa_cons (pv 2) pa_nil))) pa_nil)))))) pa_nil)))), ?_⟩
    obtain ⟨t, h, arms, rfl, ⟨as, ht, hal, haa⟩, hok, k⟩ := h
    simp only [L2.start, List.map_cons, List.map_nil, List.length_cons, List.length_nil, List.replicate, Nat.reduceAdd, Nat.reduceSub, List.cons_append, List.nil_append]
    rw [tRet_ap]
    refine ⟨_, rfl, t, rfl, ⟨_, SqT.of ht⟩, fun D hD => lc_it (walk_tup (xs := as.map V.ref)) (CvW H D (fun a => a.2 * Mt.pos (h - a.1)) arms) ⟨same_upd hD, upd_same⟩ (fun i H' _ p => SqT.of (p.1 _ _ ht)) ?_ ?_⟩
    · rintro i x H1 H2 hi ⟨e1, hacc⟩ ⟨rfl, hx⟩
      rw [List.length_map] at hi
      have hi2 : i < arms.length := by omega
      rw [List.getElem?_map, List.getElem?_eq_getElem hi] at hx
      cases hx
      have hp := e1 _ _ (haa i _ _ (List.getElem?_eq_getElem hi) (List.getElem?_eq_getElem hi2))
      have hw := hok.2 _ (List.getElem_mem hi2)
      refine ⟨as[i], _, rfl, SqT.of hp, rfl, _, _, rfl, _, _, rfl, rfl, rfl, ?_⟩
      simp only [wipe, gName, tYes, if_true, List.set_cons_succ, List.set_cons_zero]
      refine ⟨_, rfl, .inl ⟨_, rfl, _, rfl, .inl ⟨_, rfl, _, rfl, .inl ⟨_, rfl, _, _, rfl, rfl, 0, _, rfl, _, _, rfl, rfl, .inl ⟨by omega, by omega⟩, ?_⟩⟩⟩⟩
      refine ⟨_, hacc, by have := hok.1; simp [sizeLine]; omega, e1.updN hD, ?_⟩
      rw [upd_same, Mt.take_succ' hi2]
      simp only [List.map_append, List.map_cons, List.map_nil]
      rfl
    · rintro H1 ⟨e1, hacc⟩
      rw [List.length_map, hal, List.take_length] at hacc
      exact ⟨D, _, rfl, SqL.of hacc, k _ e1⟩
def spPullOf : Sp := fun vs H Q _ => ∃ (t : Addr) (arms : List (Int × Int)), vs = [.ref t] ∧ ArmsAt H t arms ∧ ArmsOk arms ∧ ∀ H', Same H H' → Q (.int (Mt.pullA arms)) H'
theorem sc_pull_of : FnScope ["arms", "slack", "arm"] ["arms"] (defScope s_pull_of) := ⟨rfl, rfl, rfl, by decide +kernel, rfl, by decide +kernel, by decide +kernel⟩
theorem fn_pull_of (S : SayL K mg) : Fn P w K mg base CX0 1 "pull_of" ["arms"] spPullOf := by
  refine fn_mk s_pull_of S 15 26 rfl rfl sc_pull_of (fun _ _ _ _ _ _ us hl => match us, hl with | [_], _ => rfl) (fun vs H Q E h => ?_) (fun f cdv A outer s H vs Q E hr h => ?_)
  · obtain ⟨_, _, rfl, _⟩ := h; rfl
  · have hr0 := hr
    have hu := hu_of hr
    refine ⟨_, (pss_one (ps_ret (pe_callB (cr_sum rfl) (by rfl) (S_sum S) (by decide +kernel) (pa_cons (pe_lc (own := [("slack", 1), ("arm", 2)]) rfl sc_pull_of.nd (pi_tup (pv 0)) (blkOk_by (N := ["arms", "slack", "arm"]) (sc := defScope s_pull_of) (by decide +kernel)) (fun _ _ _ _ _ => (pg_tupK (K := K) 2 rfl rfl (pgs_cons (pg_name (i := 1) sc_pull_of.nd rfl (by first | exact Or.inl rfl | exact Or.inr rfl)) (pgs_cons (pg_name (i := 2) sc_pull_of.nd rfl (by first | exact Or.inl rfl | exact Or.inr rfl)) pgs_nil)))) (fun _ _ _ _ _ => pts_nil) (fun _ _ _ _ _ => (pe_callTy call_int1 (by rfl) (S_int S) (by decide +kernel) (pa_cons (pv 2) pa_nil)))) pa_nil)))), ?_⟩
    obtain ⟨t, arms, rfl, ⟨as, ht, hal, haa⟩, hok, k⟩ := h
    simp only [L2.start, List.map_cons, List.map_nil, List.length_cons, List.length_nil, List.replicate, Nat.reduceAdd, Nat.reduceSub, List.cons_append, List.nil_append]
    rw [tRet_ap]
    refine ⟨_, rfl, t, rfl, ⟨_, SqT.of ht⟩, fun D hD => lc_it (walk_tup (xs := as.map V.ref)) (CvW H D (fun a => a.2) arms) ⟨same_upd hD, upd_same⟩ (fun i H' _ p => SqT.of (p.1 _ _ ht)) ?_ ?_⟩
    · rintro i x H1 H2 hi ⟨e1, hacc⟩ ⟨rfl, hx⟩
      rw [List.length_map] at hi
      have hi2 : i < arms.length := by omega
      rw [List.getElem?_map, List.getElem?_eq_getElem hi] at hx
      cases hx
      have hp := e1 _ _ (haa i _ _ (List.getElem?_eq_getElem hi) (List.getElem?_eq_getElem hi2))
      refine ⟨as[i], _, rfl, SqT.of hp, rfl, _, _, rfl, _, _, rfl, rfl, rfl, ?_⟩
      simp only [wipe, gName, tYes, if_true, List.set_cons_succ, List.set_cons_zero]
      refine ⟨_, rfl, .inl ⟨_, rfl, ?_⟩⟩
      refine ⟨_, hacc, by have := hok.1; simp [sizeLine]; omega, e1.updN hD, ?_⟩
      rw [upd_same, Mt.take_succ' hi2]
      simp only [List.map_append, List.map_cons, List.map_nil]
    · rintro H1 ⟨e1, hacc⟩
      rw [List.length_map, hal, List.take_length] at hacc
      exact ⟨D, _, rfl, SqL.of hacc, k _ e1⟩
def spEndAt : Sp := fun vs H Q _ => ∃ (t p : Addr) (arms : List (Int × Int)) (rs : List Int), vs = [.ref t, .ref p] ∧ ArmsAt H t arms ∧ ArmsOk arms ∧ TupR H p rs ∧ rs ≠ [] ∧ rs.length ≤ 100000 ∧ (∀ x ∈ rs, -(2 ^ 62) < x ∧ x < 2 ^ 62) ∧
  ∀ H', Same H H' → Q (.int (Mt.endA arms rs.reverse)) H'
def EaW (H : Hp) (t p : Addr) (arms : List (Int × Int)) (ps : List Int) (i : Nat) (σ' : L2.St) (H' : Hp) : Prop := ∃ (f sg : Int) (u4 u5 : Option V), σ' = [some (.ref t), some (.ref p), some (.int f), some (.int sg), u4, u5] ∧ Same H H' ∧
  (sg = 1 ∨ sg = -1) ∧ f + Mt.swings arms sg (ps.drop i) = Mt.endA arms ps
theorem sc_end_at : FnScope ["arms", "places", "found", "sign", "one", "other"] ["arms", "places"] (defScope s_end_at) := ⟨rfl, rfl, rfl, by decide +kernel, rfl, by decide +kernel, by decide +kernel⟩
theorem fn_end_at (S : SayL K mg) : Fn P w K mg base CX0 3 "end_at" ["arms", "places"] spEndAt := by
  have F_curve_of := fn_curve_of (P := P) (w := w) (base := base) S
  have F_pull_of := fn_pull_of (P := P) (w := w) (base := base) S
  refine fn_mk s_end_at S 16 27 rfl rfl sc_end_at (fun _ _ _ _ _ _ us hl => match us, hl with | [_, _], _ => rfl) (fun vs H Q E h => ?_) (fun f cdv A outer s H vs Q E hr h => ?_)
  · obtain ⟨_, _, _, _, rfl, _⟩ := h; rfl
  · have hr0 := hr
    have hu := hu_of hr
    have hr_curve_of : Room 1 _ := hr.mono (by decide)
    have hr1_curve_of : Room 2 _ := hr.mono (by decide)
    have hr_pull_of : Room 1 _ := hr.mono (by decide)
    have hr1_pull_of : Room 2 _ := hr.mono (by decide)
    refine ⟨_, (pss_cons (ps_set (i := 2) sc_end_at.nd rfl (by first | exact Or.inl rfl | exact Or.inr rfl) (pe_op op_mul (pe_callTy call_int1 (by rfl) (S_int S) (by decide +kernel) (pa_cons (pe_ix ix_u (pv 1) pe_int (fun _ _ => rfl)) pa_nil)) (pe_callTy call_int1 (by rfl) (S_int S) (by decide +kernel) (pa_cons (pe_fn F_pull_of hr_pull_of pass0 (pa_cons (pv 0) pa_nil)) pa_nil))))
      (pss_cons (ps_set (i := 3) sc_end_at.nd rfl (by first | exact Or.inl rfl | exact Or.inr rfl) pe_int)
      (pss_cons (ps_for PassesOwn.never rfl (RZ.pi_zipA (by rfl) (S_zip S) (pa_cons (pv 1) (pa_cons (pe_slice sl_tu (pv 1) (po_some pe_int) po_none) pa_nil))) (pg_tup rfl (pgs_cons (pg_name (i := 4) sc_end_at.nd rfl (by first | exact Or.inl rfl | exact Or.inr rfl)) (pgs_cons (pg_name (i := 5) sc_end_at.nd rfl (by first | exact Or.inl rfl | exact Or.inr rfl)) pgs_nil))) (pss_cons (ps_aug (i := 2) sc_end_at.nd rfl (by first | exact Or.inl rfl | exact Or.inr rfl) (pe_op op_mul (pv 3) (pe_callTy call_int1 (by rfl) (S_int S) (by decide +kernel) (pa_cons (pe_fn F_curve_of hr_curve_of pass0 (pa_cons (pv 0) (pa_cons (pe_callB call_abs (by rfl) (S_abs S) (by decide +kernel) (pa_cons (pe_op op_sub (pe_callTy call_int1 (by rfl) (S_int S) (by decide +kernel) (pa_cons (pv 5) pa_nil)) (pe_callTy call_int1 (by rfl) (S_int S) (by decide +kernel) (pa_cons (pv 4) pa_nil))) pa_nil)) pa_nil))) pa_nil))) ip_add)
      (pss_one (ps_set (i := 3) sc_end_at.nd rfl (by first | exact Or.inl rfl | exact Or.inr rfl) (pe_op op_sub pe_int (pv 3))))))
      (pss_one (ps_ret (pv 2)))))), ?_⟩
    obtain ⟨t, p, arms, rs, rfl, ha, hok, hp, hne, hlen, hb, k⟩ := h
    simp only [L2.start, List.map_cons, List.map_nil, List.length_cons, List.length_nil, List.replicate, Nat.reduceAdd, Nat.reduceSub, List.cons_append, List.nil_append]
    unfold TupR at hp
    have hne' : rs.reverse ≠ [] := by simpa using hne
    have hlen' : rs.reverse.length ≤ 100000 := by simpa using hlen
    have hb' : ∀ x ∈ rs.reverse, -(2 ^ 62) < x ∧ x < 2 ^ 62 := fun x hx => hb x (List.mem_reverse.mp hx)
    generalize rs.reverse = ps at *
    obtain ⟨p0, r, rfl⟩ : ∃ p0 r, ps = p0 :: r := by cases ps with | nil => exact absurd rfl hne' | cons p0 r => exact ⟨p0, r, rfl⟩
    have hp0 := hb' p0 (by simp)
    rw [tSeq_ap, tAsg_ap]
    refine ⟨_, rfl, p, _, 0, _, rfl, rfl, .inr hp, atI_zero _ _, .inl ⟨_, rfl, _, rfl, t, arms, rfl, ha, hok, fun H1 e1 => ?_⟩⟩
    refine .inl ⟨_, rfl, _, _, rfl, rfl, .inl ⟨by omega, by omega⟩, ?_⟩
    simp only [gName, List.set_cons_succ, List.set_cons_zero]
    rw [tSeq_ap, tAsg_ap]
    simp only [tC, gName, List.set_cons_succ, List.set_cons_zero]
    have hp1 := e1 _ _ hp
    rw [tSeq_ap]
    refine ⟨_, rfl, _, rfl, 1, rfl, p, _, rfl, hp1, fun q H2 e2 hq => ?_⟩
    rw [cut_from1 _ hne'] at hq
    have e3 := e1.trans e2
    have hp2 := e3 _ _ hp
    refine ⟨p, q, _, _, rfl, .inr ⟨SqT.of hp2, SqT.of hq, ?_⟩⟩
    refine for_it (walk_zipT (n := r.length) (xs := List.map V.int (p0 :: r)) (ys := List.map V.int r) (by simp)) (EaW H2 t p arms (p0 :: r)) ⟨_, _, _, _, rfl, .refl H2, .inl rfl, rfl⟩ (fun i σ' H' _ pv => ?_) ?_ ?_
    · obtain ⟨_, _, _, _, _, e, _⟩ := pv
      exact ⟨SqT.of (e _ _ hp2), SqT.of (e _ _ hq)⟩
    · rintro i x σ' H3 H4 hi ⟨f, sg, u4, u5, rfl, e4, hsg, hinv⟩ ⟨T, x', y', rfl, hT, rfl, hx, hy⟩
      have hi1 : i < (p0 :: r).length := by simp; omega
      dsimp only at hx hy
      rw [List.getElem?_map, List.getElem?_eq_getElem hi1] at hx
      rw [List.getElem?_map, List.getElem?_eq_getElem hi] at hy
      cases hx
      cases hy
      have e5 : Same H2 (upd H3 T (.tup [.int (p0 :: r)[i], .int r[i]])) := e4.new hT
      refine ⟨T, _, rfl, SqT.of upd_same, rfl, _, _, rfl, _, _, rfl, rfl, ?_⟩
      simp only [gName, List.set_cons_succ, List.set_cons_zero]
      generalize upd H3 T (.tup [.int (p0 :: r)[i], .int r[i]]) = H5 at *
      rw [tSeq_ap, tAug_ap]
      refine ⟨_, rfl, _, rfl, _, rfl, _, rfl, .inl ⟨_, rfl, _, rfl, .inl ⟨_, rfl, _, _, rfl, rfl, _, rfl, t, _, arms, rfl, ha.same (e3.trans e5), hok, fun H6 e6 => ?_⟩⟩⟩
      refine .inl ⟨_, rfl, _, _, rfl, rfl, .inl ⟨by omega, by omega⟩, _, _, rfl, rfl, ?_⟩
      simp only [List.set_cons_succ, List.set_cons_zero]
      rw [tAsg_ap]
      refine ⟨_, rfl, _, _, rfl, rfl, ?_⟩
      have hdrop : (p0 :: r).drop i = (p0 :: r)[i] :: r[i] :: r.drop (i + 1) := by
        rw [List.drop_eq_getElem_cons hi1]
        congr 1
        rw [List.drop_succ_cons, List.drop_eq_getElem_cons hi]
      rw [hdrop] at hinv
      refine ⟨_, _, _, _, rfl, e5.trans e6, by omega, ?_⟩
      have hd2 : (p0 :: r).drop (i + 1) = r[i] :: r.drop (i + 1) := by rw [List.drop_succ_cons, List.drop_eq_getElem_cons hi]
      rw [hd2, ← hinv]
      show _ = f + (sg * Mt.curveA arms (Mt.iabs (r[i] - (p0 :: r)[i])) + Mt.swings arms (0 - sg) (r[i] :: r.drop (i + 1)))
      unfold Mt.iabs
      omega
    · rintro σ' H3 ⟨f, sg, u4, u5, rfl, e4, hsg, hinv⟩
      dsimp only
      rw [tRet_ap]
      refine ⟨_, rfl, ?_⟩
      have : (p0 :: r).drop r.length = [(p0 :: r)[r.length]] := by
        rw [List.drop_eq_getElem_cons (by simp)]; simp
      rw [this] at hinv
      simp [Mt.swings] at hinv
      rw [hinv]
      exact k _ (e3.trans e4)
abbrev cR (K : PySem.W.Frag) : Addr := He.ga K "Rig"
/-- v is a Rig with these arms -/
def RigAt (K : PySem.W.Frag) (H : Hp) (v : V) (arms : List (Int × Int)) : Prop := ∃ x dx t, v = .ref x ∧ H x = some (.ins (cR K) dx [("told", .ref t)]) ∧ ArmsAt H t arms
theorem RigAt.same {K : PySem.W.Frag} {H H' : Hp} {v : V} {arms : List (Int × Int)} (e : Same H H') (h : RigAt K H v arms) : RigAt K H' v arms := by
  obtain ⟨x, dx, t, h1, h2, h3⟩ := h
  exact ⟨x, dx, t, h1, e _ _ h2, h3.same e⟩
theorem RigAt.sameD {K : PySem.W.Frag} {H H' : Hp} {v : V} {arms : List (Int × Int)} {d : Addr} {ys : List V} (m : RigAt K H v arms) (hd : H d = some (.lst ys)) (e : SameD d H H') : RigAt K H' v arms := by
  obtain ⟨x, dx, t, rfl, hx, ht⟩ := m
  exact ⟨x, dx, t, rfl, e _ _ (ne_of hx hd (by intro z; cases z)) hx, ht.sameD hd e⟩
def spRigInit (K : PySem.W.Frag) : Sp := fun vs H Q _ => ∃ (H0 : Hp) (x dx t : Addr) (arms : List (Int × Int)), vs = [.ref x, .ref t] ∧ Same H0 H ∧ H0 x = none ∧ H x = some (.ins (cR K) dx []) ∧ ArmsAt H t arms ∧
  ∀ H', Same H0 H' → H' x = some (.ins (cR K) dx [("told", .ref t)]) → ArmsAt H' t arms → Q .non H'
theorem mk_rig {K : PySem.W.Frag} {H : Hp} {t : Addr} {arms : List (Int × Int)} {Q : VK} {E : XK} (ht : ArmsAt H t arms) (k : ∀ v H', Same H H' → RigAt K H' v arms → Q v H') :
    ∀ x dx, H x = none → H dx = none → dx ≠ x → spRigInit K (.ref x :: ([.ref t] ++ [])) (upd (upd H dx (.own x)) x (.ins (cR K) dx [])) (fun v H2 => v = .non ∧ Q (.ref x) H2) E := by
  intro x dx hx hdx hne
  have s0 : Same H (upd (upd H dx (.own x)) x (.ins (cR K) dx [])) := (same_upd hdx).updN hx
  exact ⟨H, x, dx, t, arms, rfl, s0, hx, upd_same, ht.same s0, fun H' e h1 h2 => ⟨rfl, k _ _ e ⟨x, dx, t, rfl, h1, h2⟩⟩⟩
def mkAskR (K : PySem.W.Frag) (E : XK) (v : V) (Q : VK) (H : Hp) : Prop := ∀ x dx, H x = none → H dx = none → dx ≠ x → spRigInit K (.ref x :: ([v] ++ [])) (upd (upd H dx (.own x)) x (.ins (He.ga K "Rig") dx [])) (fun v H2 => v = .non ∧ Q (.ref x) H2) E
theorem t_mkrig {K : PySem.W.Frag} {H : Hp} {σ : L2.St} {Q : VK} {E : XK} {te : TE} (h : te σ H (fun v H1 => mkAskR K E v Q H1)) : tMake (He.ga K "Rig") (spRigInit K) [] E (tCons te tNil) σ H Q := h
theorem mkAskR_of {K : PySem.W.Frag} {H : Hp} {Q : VK} {E : XK} {arms : List (Int × Int)} {t : Addr} (ht : ArmsAt H t arms) (k : ∀ v H', Same H H' → RigAt K H' v arms → Q v H') : mkAskR K E (.ref t) Q H := mk_rig (Q := Q) ht k
theorem sc_Rig_init : FnScope ["self", "arms"] ["self", "arms"] (defScope s_Rig_init) := ⟨rfl, rfl, rfl, by decide +kernel, rfl, by decide +kernel, by decide +kernel⟩
theorem fn_Rig_init (S : SayL K mg) : MeB P w K mg base CX0 1 (He.ga K "Rig") "__init__" ["self", "arms"] (spRigInit K) := by
  refine me_mk s_Rig_init S 23 71 rfl rfl sc_Rig_init (fun _ _ _ _ _ _ us hl => match us, hl with | [_, _], _ => rfl) (fun vs H Q E h => ?_) (fun f cdv A outer s H vs Q E hr h => ?_)
  · obtain ⟨_, _, _, _, _, rfl, _⟩ := h; rfl
  · have hr0 := hr
    have hu := hu_of hr
    refine ⟨_, (pss_one (ps_fld (pv 0) (pv 1) rfl)), ?_⟩
    obtain ⟨H0, x, dx, t, arms, rfl, s0, hx0, hx, ht, k⟩ := h
    simp only [L2.start, List.map_cons, List.map_nil, List.length_cons, List.length_nil, List.replicate, Nat.reduceAdd, Nat.reduceSub, List.cons_append, List.nil_append]
    refine ⟨_, rfl, _, rfl, x, _, dx, [], rfl, hx, C_Rig S, N_Rig_told S, by decide, ?_⟩
    obtain ⟨as, h1, h2, h3⟩ := ht
    refine k _ (s0.updN hx0) upd_same ⟨as, ?_, h2, fun i a w y z => ?_⟩
    · rw [upd_ne (ne_of h1 hx (by intro z; cases z))]; exact h1
    · rw [upd_ne (ne_of (h3 i a w y z) hx (by intro z; cases z))]; exact h3 i a w y z
def spRigAt (K : PySem.W.Frag) : Sp := fun vs H Q _ => ∃ v u arms rs, vs = [v, u] ∧ RigAt K H v arms ∧ ArmsOk arms ∧ MemAt K H u rs ∧ Mt.MemOk rs ∧ rs.length ≤ 100000 ∧ ∀ H', Same H H' → Q (.int (Mt.endA arms rs.reverse)) H'
theorem memOk_small {rs : List Int} (h : Mt.MemOk rs) : ∀ x ∈ rs, -(2 ^ 62) < x ∧ x < 2 ^ 62 := fun x hx => by
  obtain ⟨k, hk, rfl⟩ := List.getElem_of_mem hx
  have := (Mt.memV_at h.2 hk).1
  omega
theorem sc_Rig_at : FnScope ["self", "memory"] ["self", "memory"] (defScope s_Rig_at) := ⟨rfl, rfl, rfl, by decide +kernel, rfl, by decide +kernel, by decide +kernel⟩
theorem fn_Rig_at (S : SayL K mg) : MeB P w K mg base CX0 5 (He.ga K "Rig") "at" ["self", "memory"] (spRigAt K) := by
  have F_end_at := fn_end_at (P := P) (w := w) (base := base) S
  have F_Memory_places := fn_Memory_places (P := P) (w := w) (base := base) S
  refine me_mk s_Rig_at S 25 73 rfl rfl sc_Rig_at (fun _ _ _ _ _ _ us hl => match us, hl with | [_, _], _ => rfl) (fun vs H Q E h => ?_) (fun f cdv A outer s H vs Q E hr h => ?_)
  · obtain ⟨_, _, _, _, rfl, _⟩ := h; rfl
  · have hr0 := hr
    have hu := hu_of hr
    have hr_end_at : Room 3 _ := hr.mono (by decide)
    have hr1_end_at : Room 4 _ := hr.mono (by decide)
    have hr_Memory_places : Room 1 _ := hr.mono (by decide)
    have hr1_Memory_places : Room 2 _ := hr.mono (by decide)
    refine ⟨_, (pss_one (ps_ret (pe_fn F_end_at hr_end_at pass0 (pa_cons (pe_fld (pv 0) rfl) (pa_cons (pe_pr F_Memory_places (C_Memory S) hr1_Memory_places pass0 (pv 1)) pa_nil))))), ?_⟩
    obtain ⟨v, u, arms, rs, rfl, ⟨x, dx, t, rfl, hx, ht⟩, hok, hm, mok, hl, k⟩ := h
    simp only [L2.start, List.map_cons, List.map_nil, List.length_cons, List.length_nil, List.replicate, Nat.reduceAdd, Nat.reduceSub, List.cons_append, List.nil_append]
    rw [tRet_ap]
    refine ⟨_, rfl, x, _, dx, _, .ref t, rfl, hx, C_Rig S, N_Rig_told S, rfl, ?_⟩
    refine v_places rfl hm fun p hp => ?_
    exact ⟨t, p, arms, rs, rfl, ht, hok, hp, mok.1, hl, memOk_small mok, k⟩
def spRod (K : PySem.W.Frag) : Sp := fun vs H Q _ => ∃ (s : Int), vs = [.int s] ∧ 0 ≤ s ∧ s ≤ 99 ∧ ∀ v H', Same H H' → RigAt K H' v [(s, 1)] → Q v H'
theorem sc_rod : FnScope ["slack"] ["slack"] (defScope s_rod) := ⟨rfl, rfl, rfl, by decide +kernel, rfl, by decide +kernel, by decide +kernel⟩
theorem fn_rod (S : SayL K mg) : Fn P w K mg base CX0 5 "rod" ["slack"] (spRod K) := by
  have F_is_int_in := fn_is_int_in (P := P) (w := w) (base := base) S
  have F_Rig_init := fn_Rig_init (P := P) (w := w) (base := base) S
  refine fn_mk s_rod S 38 37 rfl rfl sc_rod (fun _ _ _ _ _ _ us hl => match us, hl with | [_], _ => rfl) (fun vs H Q E h => ?_) (fun f cdv A outer s H vs Q E hr h => ?_)
  · obtain ⟨_, rfl, _⟩ := h; rfl
  · have hr0 := hr
    have hu := hu_of hr
    have hr_is_int_in : Room 3 _ := hr.mono (by decide)
    have hr1_is_int_in : Room 4 _ := hr.mono (by decide)
    have hr_Rig_init : Room 1 _ := hr.mono (by decide)
    have hr1_Rig_init : Room 2 _ := hr.mono (by decide)
    refine ⟨_, (pss_cons (ps_if (pt_not (pt_val (pe_fn F_is_int_in hr_is_int_in pass0 (pa_cons (pv 0) (pa_cons pe_int (pa_cons (pe_gint (S_MAX_SLACK S)) pa_nil)))))) (pss_one ps_never) pss_nil)
      (pss_one (ps_ret (pe_mk F_Rig_init (K_Rig S).makes (K_Rig S).kp (S_Rig S) hr1_Rig_init pass0 (pa_cons (pe_tup (pa_cons (pe_tup (pa_cons (pv 0) (pa_cons pe_int pa_nil))) pa_nil)) pa_nil))))), ?_⟩
    obtain ⟨s, rfl, h0, h1, k⟩ := h
    simp only [L2.start, List.map_cons, List.map_nil, List.length_cons, List.length_nil, List.replicate, Nat.reduceAdd, Nat.reduceSub, List.cons_append, List.nil_append]
    rw [tSeq_ap, tIfS_ap]
    have hin : inR (.int s) 0 99 = true := by unfold inR; simp; omega
    refine ⟨_, rfl, _, 0, 99, rfl, rfl, _, rfl, ?_⟩
    simp only [hin, Bool.not_true, Bool.false_eq_true, if_false, tNext_ap]
    rw [tRet_ap]
    refine t_mkrig ?_
    refine ⟨_, rfl, by simp [sizeLine], fun p hp => ?_⟩
    have e1 : Same H (upd H p (.tup [.int s, .int 1])) := same_upd hp
    have hp1 : upd H p (.tup [.int s, .int 1]) p = some (.tup [.int s, .int 1]) := upd_same
    generalize upd H p (.tup [.int s, .int 1]) = H1 at *
    refine ⟨by simp [sizeLine], fun t ht => ?_⟩
    have e2 : Same H1 (upd H1 t (.tup [.ref p])) := same_upd ht
    have ha : ArmsAt (upd H1 t (.tup [.ref p])) t [(s, 1)] := by
      refine ⟨[p], upd_same, rfl, fun i a w h1 h2 => ?_⟩
      cases i with
      | zero => cases h1; cases h2; exact e2 _ _ hp1
      | succ n => simp at h1
    exact mkAskR_of ha fun v H' e hv => k v H' (e1.trans (e2.trans e)) hv
def K17W (a d : Addr) (_ : Nat) (σ' : L2.St) (H' : Hp) : Prop := ∃ (st : List Int) (u2 u3 u4 u5 u6 u7 u8 u9 : Option V), σ' = [some (.ref a), some (.ref d), u2, u3, u4, u5, u6, u7, u8, u9] ∧ H' d = some (.lst (List.map V.int st)) ∧ StOk st
def Bd (F : Int) (rs : List Int) : Prop := Mt.MemOk rs ∧ rs.length ≤ 20 ∧ ∀ x ∈ rs, -F ≤ x ∧ x ≤ F
def K17M (K : PySem.W.Frag) (a d : Addr) (F : Int) (σ' : L2.St) (H' : Hp) : Prop := ∃ (u2 u6 u7 u8 u9 : Option V) (sv gv : V) (rs gs st : List Int), σ' = [some (.ref a), some (.ref d), u2, some (.int F), some sv, some gv, u6, u7, u8, u9] ∧
  H' d = some (.lst (List.map V.int st)) ∧ StOk st ∧ MemAt K H' sv rs ∧ MemAt K H' gv gs ∧ Bd F rs ∧ Bd F gs
theorem bd_row {F : Int} {row : List Int} (h0 : 0 ≤ F) (h1 : F ≤ 100) (hl : row.length ≤ 19) (h : ∀ x ∈ row, -F ≤ x ∧ x ≤ F) : Bd F (Mt.memR row) := by
  refine ⟨Mt.memR_ok fun n hn => by have := h n hn; omega, by have := Mt.memR_len row; omega, fun x hx => ?_⟩
  rcases Mt.memR_mem hx with e | e
  · omega
  · exact h x e
def K17E (K : PySem.W.Frag) (H : Hp) (D : Addr) (rss : List (List Int)) (n : Nat) (i : Nat) (H' : Hp) : Prop := Same H H' ∧ ∃ es : List Addr, H' D = some (.lst (List.map V.ref es)) ∧ es.length = i ∧ D ∉ es ∧ ∀ (j : Nat) e rs, es[j]? = some e → rss[j]? = some rs → H' e = some (.lst (List.map V.int (Mt.endsL rs n)))
def K17S (H : Hp) (D : Addr) (rs : List Int) (i : Nat) (H' : Hp) : Prop := Same H H' ∧ H' D = some (.lst (List.map V.int (Mt.endsL rs i)))
def K17L (H : Hp) (a d D : Addr) (F : Int) (sv gv : V) (u2 u8 u9 : Option V) (_ : Nat) (σ' : L2.St) (H' : Hp) : Prop := ∃ u7, σ' = [some (.ref a), some (.ref d), u2, some (.int F), some sv, some gv, some (.ref D), u7, u8, u9] ∧ Same H H'
theorem sc_law : FnScope ["_law_script", "_law_d", "_law_step", "_law_far", "_law_one", "_law_other", "_law_ends", "_law_k", "_law_memory", "_law_slack"] ["_law_script"] (defScope s_law) := ⟨rfl, rfl, rfl, by decide +kernel, rfl, by decide +kernel, by decide +kernel⟩
theorem fn_law (S : SayL K mg) : Fn P w K mg base CX0 11 "law" ["_law_script"] (spLaw K) := by
  have F_L_random := fn_L_random (P := P) (w := w) (base := base) S
  have F_L_below := fn_L_below (P := P) (w := w) (base := base) S
  have F_L_row := fn_L_row (P := P) (w := w) (base := base) S
  have F_memory_of := fn_memory_of (P := P) (w := w) (base := base) S
  have F_rod := fn_rod (P := P) (w := w) (base := base) S
  have F_Rig_at := fn_Rig_at (P := P) (w := w) (base := base) S
  have F_Memory_places := fn_Memory_places (P := P) (w := w) (base := base) S
  have F_Memory_place := fn_Memory_place (P := P) (w := w) (base := base) S
  have F_Memory_row := fn_Memory_row (P := P) (w := w) (base := base) S
  have F_Memory_eq := fn_Memory_eq (P := P) (w := w) (base := base) S
  refine fn_mk s_law S 42 41 rfl rfl sc_law (fun _ _ _ _ _ _ us hl => match us, hl with | [_], _ => rfl) (fun vs H Q E h => ?_) (fun f cdv A outer s H vs Q E hr h => ?_)
  · obtain ⟨_, _, rfl, _⟩ := h; rfl
  · have hr0 := hr
    have hu := hu_of hr
    have hr_L_random : Room 1 _ := hr.mono (by decide)
    have hr1_L_random : Room 2 _ := hr.mono (by decide)
    have hr_L_below : Room 1 _ := hr.mono (by decide)
    have hr1_L_below : Room 2 _ := hr.mono (by decide)
    have hr_L_row : Room 3 _ := hr.mono (by decide)
    have hr1_L_row : Room 4 _ := hr.mono (by decide)
    have hr_memory_of : Room 9 _ := hr.mono (by decide)
    have hr1_memory_of : Room 10 _ := hr.mono (by decide)
    have hr_rod : Room 5 _ := hr.mono (by decide)
    have hr1_rod : Room 6 _ := hr.mono (by decide)
    have hr_Rig_at : Room 5 _ := hr.mono (by decide)
    have hr1_Rig_at : Room 6 _ := hr.mono (by decide)
    have hr_Memory_places : Room 1 _ := hr.mono (by decide)
    have hr1_Memory_places : Room 2 _ := hr.mono (by decide)
    have hr_Memory_place : Room 1 _ := hr.mono (by decide)
    have hr1_Memory_place : Room 2 _ := hr.mono (by decide)
    have hr_Memory_row : Room 1 _ := hr.mono (by decide)
    have hr1_Memory_row : Room 2 _ := hr.mono (by decide)
    have hr_Memory_eq : Room 1 _ := hr.mono (by decide)
    have hr1_Memory_eq : Room 2 _ := hr.mono (by decide)
    refine ⟨_, (pss_cons (ps_set (i := 1) sc_law.nd rfl (by first | exact Or.inl rfl | exact Or.inr rfl) (pe_fn F_L_random hr_L_random pass0 (pa_cons (pv 0) (pa_cons pe_int pa_nil))))
      (pss_cons (ps_for PassesOwn.never rfl (pi_range1 (by rfl) (S_range S) (pa_cons pe_int pa_nil)) (pg_name (i := 2) sc_law.nd rfl (by first | exact Or.inl rfl | exact Or.inr rfl)) (pss_cons (ps_set (i := 3) sc_law.nd rfl (by first | exact Or.inl rfl | exact Or.inr rfl) (pe_op op_add pe_int (pe_fn F_L_below hr_L_below pass0 (pa_cons (pv 1) (pa_cons pe_int pa_nil)))))
      (pss_cons (ps_par (i := 4) (j := 5) (by rfl) sc_law.nd rfl rfl (by decide) rfl rfl (pa_cons (pe_fn F_memory_of hr_memory_of pass0 (pa_cons (pe_fn F_L_row hr_L_row pass0 (pa_cons (pv 1) (pa_cons pe_int (pa_cons (pv 3) pa_nil)))) pa_nil)) (pa_cons (pe_fn F_memory_of hr_memory_of pass0 (pa_cons (pe_fn F_L_row hr_L_row pass0 (pa_cons (pv 1) (pa_cons pe_int (pa_cons (pv 3) pa_nil)))) pa_nil)) pa_nil)) (by rfl))
      (pss_cut (ps_if (pt_cmpR op_eq (pe_fn F_L_below hr_L_below pass0 (pa_cons (pv 1) (pa_cons pe_int pa_nil))) pe_int (nomark _)) (pss_one (ps_set (i := 5) sc_law.nd rfl (by first | exact Or.inl rfl | exact Or.inr rfl) (pe_fn F_memory_of hr_memory_of pass0 (pa_cons (pe_op op_cat (pe_pr F_Memory_row (C_Memory S) hr1_Memory_row pass0 (pv 4)) (pe_lst (pa_cons (pe_ifExp (pt_cmpR (op_neSq hr.units) (pe_pr F_Memory_row (C_Memory S) hr1_Memory_row pass0 (pv 4)) (pe_lst pa_nil) (nomark _)) (pe_ix ix_u (pe_pr F_Memory_row (C_Memory S) hr1_Memory_row pass0 (pv 4)) (pe_un un_neg pe_int) (fun _ _ => rfl)) pe_int) (pa_cons (pe_fn F_L_below hr_L_below pass0 (pa_cons (pv 1) (pa_cons (pv 3) pa_nil))) pa_nil)))) pa_nil)))) pss_nil)
      (pss_cons (ps_setLc (i := 6) (own := [("_law_memory", 8)]) rfl sc_law.nd rfl rfl (sw_true rfl rfl rfl (by decide +kernel)) (pi_tup (pe_tup (pa_cons (pv 4) (pa_cons (pv 5) pa_nil)))) (blkOk_by (N := ["_law_script", "_law_d", "_law_step", "_law_far", "_law_one", "_law_other", "_law_ends", "_law_k", "_law_memory", "_law_slack"]) (sc := defScope s_law) (by decide +kernel)) (fun _ _ _ _ _ => (pg_name (i := 8) sc_law.nd rfl (by first | exact Or.inl rfl | exact Or.inr rfl))) (fun _ _ _ _ _ => pts_nil) (fun _ _ _ _ _ => (by exact (pe_lc (own := [("_law_slack", 9)]) rfl sc_law.nd (pi_range1 (by rfl) (S_range S) (pa_cons (pe_op op_add (pe_op op_mul pe_int (pv 3)) pe_int) pa_nil)) (blkOk_by (by with_unfolding_all rfl)) (fun _ _ _ _ _ => (pg_name (i := 9) sc_law.nd rfl (by first | exact Or.inl rfl | exact Or.inr rfl))) (fun _ _ _ _ _ => pts_nil) (fun _ _ _ _ _ => (pe_me F_Rig_at (C_Rig S) hr_Rig_at pass0 (pe_fn F_rod hr_rod pass0 (pa_cons (pv 9) pa_nil)) (pa_cons (pv 8) pa_nil)))))))
      (pss_cons (ps_if (PW.pt (pw_or (pt_cmpR op_ne (pe_cmpR (op_eqI F_Memory_eq hr_Memory_eq pass0) (pv 4) (pv 5) (nomark _)) (pe_cmpR (op_eqSq hr.units) (pe_ix ix_u (pv 6) pe_int (fun _ _ => rfl)) (pe_ix ix_u (pv 6) pe_int (fun _ _ => rfl)) (nomark _)) (nomark _)) (pw_or1 (pt_cmpR op_ne (pe_cmpR (op_eqI F_Memory_eq hr_Memory_eq pass0) (pv 4) (pv 5) (nomark _)) (pe_cmpR (op_eqSq hr.units) (pe_pr F_Memory_places (C_Memory S) hr1_Memory_places pass0 (pv 4)) (pe_pr F_Memory_places (C_Memory S) hr1_Memory_places pass0 (pv 5)) (nomark _)) (nomark _))))) (pss_one (ps_ret pe_bl)) pss_nil)
      (pss_cons (ps_for PassesOwn.never rfl (pi_range1 (by rfl) (S_range S) (pa_cons (pe_op op_sub (pe_callB call_len_u (by rfl) (S_len S) (by decide +kernel) (pa_cons (pe_ix ix_u (pv 6) pe_int (fun _ _ => rfl)) pa_nil)) pe_int) pa_nil)) (pg_name (i := 7) sc_law.nd rfl (by first | exact Or.inl rfl | exact Or.inr rfl)) (pss_one (ps_if (PW.pt (pw_or (pt_not (pt_chain op_le op_le pe_int (pe_op op_sub (pe_ix ix_u (pe_ix ix_u (pv 6) pe_int (fun _ _ => rfl)) (pv 7) (fun _ _ => rfl)) (pe_ix ix_u (pe_ix ix_u (pv 6) pe_int (fun _ _ => rfl)) (pe_op op_add (pv 7) pe_int) (fun _ _ => rfl))) pe_int)) (pw_or1 (pt_not (pt_chain op_le op_le (pe_ix ix_u (pe_pr F_Memory_places (C_Memory S) hr1_Memory_places pass0 (pv 4)) pe_int (fun _ _ => rfl)) (pe_ix ix_u (pe_ix ix_u (pv 6) pe_int (fun _ _ => rfl)) (pv 7) (fun _ _ => rfl)) (pe_callB (cr_maxU rfl) (by rfl) (S_max S) (by decide +kernel) (pa_cons (pe_pr F_Memory_places (C_Memory S) hr1_Memory_places pass0 (pv 4)) pa_nil))))))) (pss_one (ps_ret pe_bl)) pss_nil)))
      (pss_one (ps_if (PW.pt (pw_or (pt_cmpR op_ne (pe_ix ix_u (pe_ix ix_u (pv 6) pe_int (fun _ _ => rfl)) pe_int (fun _ _ => rfl)) (pe_pr F_Memory_place (C_Memory S) hr1_Memory_place pass0 (pv 4)) (nomark _)) (pw_or (pt_cmpR op_ne (pe_ix ix_u (pe_ix ix_u (pv 6) pe_int (fun _ _ => rfl)) pe_int (fun _ _ => rfl)) (pe_pr F_Memory_place (C_Memory S) hr1_Memory_place pass0 (pv 5)) (nomark _)) (pw_or1 (pt_cmpR op_ne (pe_ix ix_u (pe_ix ix_u (pv 6) pe_int (fun _ _ => rfl)) (pe_op op_add (pe_op op_mul pe_int (pv 3)) pe_int) (fun _ _ => rfl)) (pe_ix ix_u (pe_pr F_Memory_places (C_Memory S) hr1_Memory_places pass0 (pv 4)) pe_int (fun _ _ => rfl)) (nomark _)))))) (pss_one (ps_ret pe_bl)) pss_nil)))))))))
      (pss_one (ps_ret pe_bl)))), ?_⟩
    obtain ⟨a, ns, rfl, ha, hl, k⟩ := h
    simp only [L2.start, List.map_cons, List.map_nil, List.length_cons, List.length_nil, List.replicate, Nat.reduceAdd, Nat.reduceSub, List.cons_append, List.nil_append]
    rw [tSeq_ap, tAsg_ap]
    refine ⟨_, rfl, a, ns, 17, rfl, ha, hl, by decide, fun d st H1 e1 hd0 hd hst => ?_⟩
    simp only [gName, List.set_cons_succ, List.set_cons_zero]
    clear e1 hd0 ha hl
    rw [tSeq_ap]
    refine ⟨_, rfl, by decide, by decide, for_it (walk_range (lo := 0) (n := 3)) (K17W a d) ⟨st, _, _, _, _, _, _, _, _, rfl, hd, hst⟩ (fun _ _ _ _ _ => trivial) ?_ ?_⟩
    · rintro i x σ' H2 H3 hi ⟨st, u2, u3, u4, u5, u6, u7, u8, u9, rfl, hd2, hst2⟩ ⟨rfl, rfl⟩
      clear hd hst
      simp only [gName, List.set_cons_succ, List.set_cons_zero]
      rw [tSeq_ap, tAsg_ap]
      refine ⟨_, rfl, d, st, 12, rfl, hd2, hst2, by decide, by decide, fun r0 st0 h00 h01 hs0 => ⟨_, _, rfl, rfl, ?_⟩⟩
      simp only [gName, List.set_cons_succ, List.set_cons_zero]
      have hd3 : upd H3 d (.lst (List.map V.int st0)) d = some (.lst (List.map V.int st0)) := upd_same
      generalize upd H3 d (.lst (List.map V.int st0)) = H4 at *
      obtain ⟨F, eF, hF0, hF1⟩ : ∃ F : Int, F = 3 + r0 ∧ 3 ≤ F ∧ F ≤ 14 := ⟨_, rfl, by omega, by omega⟩
      rw [← eF]
      clear eF h00 h01
      rw [tSeq_ap, tPar_ap]
      refine ⟨_, rfl, _, rfl, d, st0, 9, F, rfl, hd3, hs0, by decide, by decide, by omega, by omega, fun r2 row2 st2 H5 e5 _ hrow2 hr2d hd5 hs2 hl2 hb2 => ?_⟩
      refine ⟨r2, row2, rfl, hrow2, ⟨by omega, fun n hn => by have := hb2 n hn; omega⟩, fun sv H6 e6 hsv => ?_⟩
      have bs := bd_row (by omega) (by omega) (by omega) hb2
      have hls := Mt.memR_len row2
      generalize Mt.memR row2 = rs at *
      have hd6 := e6 _ _ hd5
      refine ⟨_, rfl, _, rfl, d, st2, 9, F, rfl, hd6, hs2, by decide, by decide, by omega, by omega, fun r4 row4 st4 H7 e7 _ hrow4 hr4d hd7 hs4 hl4 hb4 => ?_⟩
      have hsv7 := hsv.sameD hd6 e7
      refine ⟨r4, row4, rfl, hrow4, ⟨by omega, fun n hn => by have := hb4 n hn; omega⟩, fun gv H8 e8 hgv => ?_⟩
      have bg := bd_row (by omega) (by omega) (by omega) hb4
      generalize Mt.memR row4 = gs at *
      have hsv8 := hsv7.same e8
      have hd8 := e8 _ _ hd7
      refine ⟨_, _, rfl, ?_⟩
      simp only [gName, List.set_cons_succ, List.set_cons_zero]
      clear hsv hsv7 hd7 hd6 hd5 hd3 e5 e6 e7 e8 hrow2 hrow4
      refine ⟨K17M K a d F, ?_, ?_⟩
      · rw [tIfS_ap]
        refine ⟨_, rfl, d, st4, 2, rfl, hd8, hs4, by decide, by decide, fun r9 st9 h90 h91 hs9 => ?_⟩
        have hsv9 := hsv8.keep (o := .lst (List.map V.int st9)) hd8
        have hgv9 := hgv.keep (o := .lst (List.map V.int st9)) hd8
        have hd9 : upd H8 d (.lst (List.map V.int st9)) d = some (.lst (List.map V.int st9)) := upd_same
        generalize upd H8 d (.lst (List.map V.int st9)) = H9 at *
        refine ⟨rfl, _, rfl, ?_⟩
        by_cases c : V.int r9 = V.int 0
        · rw [decide_eq_true c]
          simp only [if_true]
          rw [tAsg_ap]
          refine v_row rfl hsv9 bs.1.1 fun l10 H10 e10 hl10n hl10 => ?_
          have hl10d : l10 ≠ d := fun z => by rw [z, hd9] at hl10n; cases hl10n
          have hsv10 := hsv9.same e10
          have hd10 := e10 _ _ hd9
          refine v_row rfl hsv10 bs.1.1 fun l11 H11 e11 _ hl11 => ?_
          refine ⟨by simp [sizeLine], fun l12 hl12 => ?_⟩
          have e12 : Same H11 (upd H11 l12 (.lst [])) := same_upd hl12
          have hl12' : upd H11 l12 (.lst []) l12 = some (.lst (List.map V.int [])) := upd_same
          generalize upd H11 l12 (.lst []) = H12 at *
          refine ⟨l11, l12, _, [], rfl, rfl, .inr ⟨e12 _ _ hl11, hl12'⟩, _, rfl, ?_⟩
          have e13 := e11.trans e12
          have hwt : (Mt.rowOf rs).length ≤ rs.length := by have := Mt.wt_eq rs; unfold Mt.wt at this; omega
          by_cases c2 : Mt.rowOf rs = []
          · have hc2 : (!decide (Mt.rowOf rs = [])) = false := by simp [c2]
            simp only [hc2, Bool.false_eq_true, if_false]
            have hd14 := (e13) _ _ hd10
            have hl14 := (e13) _ _ hl10
            refine ⟨_, rfl, _, rfl, d, st9, F, rfl, hd14, hs9, by omega, by omega, fun rb st15 hb0 hb1 hs15 => ?_⟩
            have hl15 : upd H12 d (.lst (List.map V.int st15)) l10 = some (.lst (List.map V.int (Mt.rowOf rs))) := by rw [upd_ne hl10d]; exact hl14
            have hd15 : upd H12 d (.lst (List.map V.int st15)) d = some (.lst (List.map V.int st15)) := upd_same
            have hsv15 := (hsv10.same (e13)).keep (o := .lst (List.map V.int st15)) hd14
            generalize upd H12 d (.lst (List.map V.int st15)) = H15 at *
            refine ⟨by simp [sizeLine], fun l16 hl16 => ?_⟩
            have e16 : Same H15 (upd H15 l16 (.lst [.int (0), .int rb])) := same_upd hl16
            have hl16' : upd H15 l16 (.lst [.int (0), .int rb]) l16 = some (.lst (List.map V.int [0, rb])) := upd_same
            generalize upd H15 l16 (.lst [.int (0), .int rb]) = H16 at *
            refine ⟨l10, l16, _, _, rfl, rfl, e16 _ _ hl15, hl16', by have := bs.2.1; simp [sizeLine]; omega, fun l17 hl17 => ?_⟩
            have e17 : Same H16 (upd H16 l17 (.lst (List.map V.int (Mt.rowOf rs) ++ List.map V.int [0, rb]))) := same_upd hl17
            have hl17' : upd H16 l17 (.lst (List.map V.int (Mt.rowOf rs) ++ List.map V.int [0, rb])) l17 = some (.lst (List.map V.int (Mt.rowOf rs ++ [0, rb]))) := by rw [upd_same, List.map_append]
            generalize upd H16 l17 (.lst (List.map V.int (Mt.rowOf rs) ++ List.map V.int [0, rb])) = H17 at *
            have hbd : ∀ x ∈ Mt.rowOf rs ++ [0, rb], -F ≤ x ∧ x ≤ F := fun x hx => by
              rcases List.mem_append.mp hx with hx | hx
              · exact bs.2.2 x (Mt.rowOf_mem hx)
              · have : x = 0 ∨ x = rb := by simpa using hx
                rcases this with e | e
                · rw [e]; omega
                · omega
            have hlen : (Mt.rowOf rs ++ [0, rb]).length ≤ 19 := by simp; omega
            refine ⟨l17, _, rfl, hl17', ⟨by omega, fun n hn => by have := hbd n hn; omega⟩, fun gv2 H18 e18 hgv2 => ?_⟩
            simp only [gName, List.set_cons_succ, List.set_cons_zero]
            have bg2 := bd_row (by omega) (by omega) hlen hbd
            have e19 := (e16.trans e17).trans e18
            exact ⟨_, _, _, _, _, sv, gv2, rs, _, st15, rfl, e19 _ _ hd15, hs15, hsv15.same e19, hgv2, bs, bg2⟩
          · have hc2 : (!decide (Mt.rowOf rs = [])) = true := by simp [c2]
            simp only [hc2, if_true]
            obtain ⟨lx, hlx, hlm⟩ : ∃ lx, atI (List.map V.int (Mt.rowOf rs)) (-1) = some (.int lx) ∧ lx ∈ Mt.rowOf rs := by
              rw [atI_map, atI_m1]
              cases hr : (Mt.rowOf rs).reverse with
              | nil => exact absurd (by simpa using hr) c2
              | cons z zs => exact ⟨z, rfl, by rw [← List.mem_reverse, hr]; simp⟩
            refine v_row rfl (hsv10.same e13) bs.1.1 fun l13 H13 e13' _ hl13 => ?_
            refine ⟨1, rfl, l13, _, -1, _, rfl, rfl, .inl hl13, hlx, ?_⟩
            have hd14 := (e13.trans e13') _ _ hd10
            have hl14 := (e13.trans e13') _ _ hl10
            refine ⟨_, rfl, _, rfl, d, st9, F, rfl, hd14, hs9, by omega, by omega, fun rb st15 hb0 hb1 hs15 => ?_⟩
            have hl15 : upd H13 d (.lst (List.map V.int st15)) l10 = some (.lst (List.map V.int (Mt.rowOf rs))) := by rw [upd_ne hl10d]; exact hl14
            have hd15 : upd H13 d (.lst (List.map V.int st15)) d = some (.lst (List.map V.int st15)) := upd_same
            have hsv15 := (hsv10.same (e13.trans e13')).keep (o := .lst (List.map V.int st15)) hd14
            generalize upd H13 d (.lst (List.map V.int st15)) = H15 at *
            refine ⟨by simp [sizeLine], fun l16 hl16 => ?_⟩
            have e16 : Same H15 (upd H15 l16 (.lst [.int (lx), .int rb])) := same_upd hl16
            have hl16' : upd H15 l16 (.lst [.int (lx), .int rb]) l16 = some (.lst (List.map V.int [lx, rb])) := upd_same
            generalize upd H15 l16 (.lst [.int (lx), .int rb]) = H16 at *
            refine ⟨l10, l16, _, _, rfl, rfl, e16 _ _ hl15, hl16', by have := bs.2.1; simp [sizeLine]; omega, fun l17 hl17 => ?_⟩
            have e17 : Same H16 (upd H16 l17 (.lst (List.map V.int (Mt.rowOf rs) ++ List.map V.int [lx, rb]))) := same_upd hl17
            have hl17' : upd H16 l17 (.lst (List.map V.int (Mt.rowOf rs) ++ List.map V.int [lx, rb])) l17 = some (.lst (List.map V.int (Mt.rowOf rs ++ [lx, rb]))) := by rw [upd_same, List.map_append]
            generalize upd H16 l17 (.lst (List.map V.int (Mt.rowOf rs) ++ List.map V.int [lx, rb])) = H17 at *
            have hbd : ∀ x ∈ Mt.rowOf rs ++ [lx, rb], -F ≤ x ∧ x ≤ F := fun x hx => by
              rcases List.mem_append.mp hx with hx | hx
              · exact bs.2.2 x (Mt.rowOf_mem hx)
              · have : x = lx ∨ x = rb := by simpa using hx
                rcases this with e | e
                · rw [e]; exact bs.2.2 _ (Mt.rowOf_mem hlm)
                · omega
            have hlen : (Mt.rowOf rs ++ [lx, rb]).length ≤ 19 := by simp; omega
            refine ⟨l17, _, rfl, hl17', ⟨by omega, fun n hn => by have := hbd n hn; omega⟩, fun gv2 H18 e18 hgv2 => ?_⟩
            simp only [gName, List.set_cons_succ, List.set_cons_zero]
            have bg2 := bd_row (by omega) (by omega) hlen hbd
            have e19 := (e16.trans e17).trans e18
            exact ⟨_, _, _, _, _, sv, gv2, rs, _, st15, rfl, e19 _ _ hd15, hs15, hsv15.same e19, hgv2, bs, bg2⟩
        · rw [decide_eq_false c]
          simp only [Bool.false_eq_true, if_false, tNext_ap]
          exact ⟨_, _, _, _, _, sv, gv, rs, gs, st9, rfl, hd9, hs9, hsv9, hgv9, bs, bg⟩
      · clear bs bg hsv8 hgv hd8 hs4
        rintro σ' H9 ⟨u2, u6, u7, u8, u9, sv, gv, rs, gs, st9, rfl, hd9, hs9, hsv9, hgv9, bs, bg⟩
        rw [tSeq_ap, tAsg_ap]
        obtain ⟨n, hn⟩ : ∃ n : Nat, (n : Int) = 2 * F + 2 := ⟨(2 * F + 2).toNat, by omega⟩
        refine ⟨_, rfl, _, rfl, by simp [sizeLine], fun tp htp => ?_⟩
        have e10 : Same H9 (upd H9 tp (.tup [sv, gv])) := same_upd htp
        have htp' : upd H9 tp (.tup [sv, gv]) tp = some (.tup [sv, gv]) := upd_same
        have hsv10 := hsv9.same e10
        have hgv10 := hgv9.same e10
        have hd10 := e10 _ _ hd9
        generalize upd H9 tp (.tup [sv, gv]) = H10 at *
        have hms : ∀ (j : Nat) v, [sv, gv][j]? = some v → ∃ r, [rs, gs][j]? = some r ∧ MemAt K H10 v r ∧ Bd F r := by
          intro j v hj
          match j, hj with
          | 0, hj => cases hj; exact ⟨rs, rfl, hsv10, bs⟩
          | 1, hj => cases hj; exact ⟨gs, rfl, hgv10, bg⟩
        refine ⟨tp, rfl, ⟨_, SqT.of htp'⟩, fun D hD => lc_it (walk_tup (xs := [sv, gv])) (K17E K H10 D [rs, gs] n) ⟨same_upd hD, [], upd_same, rfl, by simp, fun j e r h => by simp at h⟩ (fun i H' _ p => SqT.of (p.1 _ _ htp')) ?_ ?_⟩
        · rintro j x H11 H12 hj ⟨e11, es, hD11, hel, hnd, hes⟩ ⟨rfl, hx⟩
          obtain ⟨r, hr, hmr, br⟩ := hms j x hx
          simp only [wipe, List.map_cons, List.map_nil, gName, tYes, if_true]
          refine ⟨rfl, ?_⟩
          refine ⟨_, rfl, _, _, rfl, rfl, .inl ⟨by decide, by decide⟩, _, _, rfl, rfl, _, rfl, by omega, by omega, fun D2 hD2 => ?_⟩
          rw [show (2 * F + 2).toNat = n by omega]
          refine lc_it (walk_range (lo := 0) (n := n)) (K17S H12 D2 r) ⟨same_upd hD2, upd_same⟩ (fun _ _ _ _ => trivial) ?_ ?_
          · rintro m y H13 H14 hm ⟨e13, hD13⟩ ⟨rfl, rfl⟩
            simp only [wipe, List.map_cons, List.map_nil, gName, tYes, if_true, Int.zero_add]
            refine ⟨rfl, ?_⟩
            refine ⟨_, rfl, _, rfl, by omega, by omega, fun v H15 e15 hv => ?_⟩
            obtain ⟨vx, vdx, vt, rfl, hvx, hvt⟩ := id hv
            refine ⟨vx, vdx, _, rfl, hvx, rfl, _, rfl, _, _, _, _, rfl, hv, ⟨by simp, by simp⟩, hmr.same ((e11.trans e13).trans e15), br.1, by have := br.2.1; omega, fun H16 e16 => ?_⟩
            refine ⟨_, e16 _ _ (e15 _ _ hD13), by rw [List.length_map, Mt.endsL_len]; simp [sizeLine]; omega, ((e13.trans e15).trans e16).updN hD2, ?_⟩
            rw [upd_same, Mt.endsL_succ, List.map_append]
            rfl
          · rintro H13 ⟨e13, hD13⟩
            have hne : D2 ≠ D := fun z => by rw [z, hD11] at hD2; cases hD2
            have hj2 : j < 2 := hj
            refine ⟨_, e13 _ _ hD11, by simp [sizeLine]; omega, (e11.trans e13).updN hD, es ++ [D2], by rw [upd_same]; simp, by simp [hel], by simp [hnd]; exact fun z => hne z.symm, ?_⟩
            intro q e r' h1 h2
            have hqe : e ≠ D := fun z => by
              have : e ∈ es ++ [D2] := List.mem_of_getElem? h1
              rw [z] at this
              rcases List.mem_append.mp this with h | h
              · exact hnd h
              · have h' : D = D2 := by simpa using h
                exact hne h'.symm
            rw [upd_ne hqe]
            by_cases cq : q < es.length
            · rw [List.getElem?_append_left cq] at h1
              exact e13 _ _ (hes q e r' h1 h2)
            · rw [List.getElem?_append_right (by omega)] at h1
              cases eq : q - es.length with
              | zero =>
                rw [eq] at h1; cases h1
                have : q = j := by omega
                rw [this, hr] at h2
                cases h2
                exact hD13
              | succ z => rw [eq] at h1; cases h1
        · rintro H11 ⟨e11, es, hD11, hel, hnd, hes⟩
          simp only [gName, List.set_cons_succ, List.set_cons_zero]
          obtain ⟨x0, x1, rfl⟩ : ∃ x0 x1, es = [x0, x1] := by
            match es, hel with
            | [x0, x1], _ => exact ⟨x0, x1, rfl⟩
          have hx0 := hes 0 x0 rs rfl rfl
          have hx1 := hes 1 x1 gs rfl rfl
          have hsv11 := hsv10.same e11
          have hgv11 := hgv10.same e11
          have hd11 := e11 _ _ hd10
          have hD11' : H11 D = some (.lst [.ref x0, .ref x1]) := hD11
          clear hes hnd hms hD11 hel
          have bb : (rs = gs) ↔ (Mt.endsL rs n = Mt.endsL gs n) := Mt.endsL_inj bs.1 bg.1 bs.2.2 bg.2.2 hn
          obtain ⟨p0, pr, hpr, f1, f2, f3, f4⟩ := Mt.rod_facts bs.1 bs.2.2
          obtain ⟨q0, qr, hqr, _, _, _, f5⟩ := Mt.rod_facts bg.1 bg.2.2
          obtain ⟨sa, sr, esa⟩ : ∃ sa sr, rs = sa :: sr := by cases h : rs with | nil => exact absurd h bs.1.1 | cons sa sr => exact ⟨sa, sr, rfl⟩
          obtain ⟨ga, gr, ega⟩ : ∃ ga gr, gs = ga :: gr := by cases h : gs with | nil => exact absurd h bg.1.1 | cons ga gr => exact ⟨ga, gr, rfl⟩
          have at0 : atI [V.ref x0, V.ref x1] 0 = some (.ref x0) := atI_zero _ _
          have at1 : atI [V.ref x0, V.ref x1] 1 = some (.ref x1) := atI_one _ _ _
          have atE : ∀ (r : List Int) (m : Nat), m < n → atI (List.map V.int (Mt.endsL r n)) (m : Int) = some (.int (Mt.rodE r m)) := fun r m hm => by
            rw [atI_map, atI_nat (Mt.endsL_at hm)]; rfl
          have rev_iff : (rs.reverse = gs.reverse) ↔ (rs = gs) := ⟨Mt.rev_inj, fun e => by rw [e]⟩
          rw [tSeq_ap, tIfS_ap]
          refine ⟨_, rfl, _, rfl, ?_⟩
          refine r_eq hsv11 hgv11 ?_
          refine ⟨_, rfl, D, _, 0, _, rfl, rfl, .inl hD11', at0, _, rfl, D, _, 1, _, rfl, rfl, .inl hD11', at1, x0, x1, _, _, rfl, rfl, .inr ⟨hx0, hx1⟩, rfl, _, rfl, ?_⟩
          have hc1 : (!decide (V.bl (decide (rs = gs)) = V.bl (decide (Mt.endsL rs n = Mt.endsL gs n)))) = false := by simp [bb]
          simp only [hc1, Bool.false_eq_true, if_false]
          refine ⟨_, rfl, _, rfl, ?_⟩
          refine r_eq hsv11 hgv11 ?_
          refine v_places rfl hsv11 fun ts hts => ?_
          refine v_places rfl hgv11 fun tg htg => ?_
          refine ⟨ts, tg, _, _, rfl, rfl, .inl ⟨hts, htg⟩, rfl, _, rfl, ?_⟩
          have hc2 : (!decide (V.bl (decide (rs = gs)) = V.bl (decide (rs.reverse = gs.reverse)))) = false := by simp
          simp only [hc2, Bool.false_eq_true, if_false, tNext_ap]
          rw [tSeq_ap]
          refine ⟨_, rfl, D, _, 0, _, rfl, rfl, .inl hD11', at0, x0, _, rfl, .inl hx0, _, _, rfl, rfl, _, rfl, by rw [List.length_map, Mt.endsL_len]; omega, by rw [List.length_map, Mt.endsL_len]; omega, ?_⟩
          rw [show (((List.map V.int (Mt.endsL rs n)).length : Int) - 1).toNat = n - 1 by rw [List.length_map, Mt.endsL_len]; omega]
          refine for_it (walk_range (lo := 0) (n := n - 1)) (K17L H11 a d D F sv gv u2 u8 u9) ⟨_, rfl, .refl H11⟩ (fun _ _ _ _ _ => trivial) ?_ ?_
          · rintro m y σ' H12 H13 hm ⟨w7, rfl, e12⟩ ⟨rfl, rfl⟩
            simp only [gName, List.set_cons_succ, List.set_cons_zero, Int.zero_add]
            have hD12 := e12 _ _ hD11'
            have hx12 := e12 _ _ hx0
            have hsv12 := hsv11.same e12
            rw [tIfS_ap]
            have g1 := f1 m (by omega)
            have g2 := f2 m (by omega)
            have hm1 : atI (List.map V.int (Mt.endsL rs n)) ((m : Int) + 1) = some (.int (Mt.rodE rs ((m : Int) + 1))) := by
              have := atE rs (m + 1) (by omega)
              rw [show ((m + 1 : Nat) : Int) = (m : Int) + 1 by omega] at this
              exact this
            refine ⟨_, rfl, D, _, 0, _, rfl, rfl, .inl hD12, at0, _, rfl, x0, _, _, _, rfl, rfl, .inl hx12, atE rs m (by omega), ?_⟩
            refine ⟨_, rfl, D, _, 0, _, rfl, rfl, .inl hD12, at0, _, rfl, _, _, rfl, rfl, x0, _, _, _, rfl, rfl, .inl hx12, hm1, ?_⟩
            refine ⟨_, _, rfl, rfl, _, _, rfl, rfl, _, rfl, ?_⟩
            rw [if_pos (decide_eq_true g1.1)]
            refine ⟨_, _, rfl, rfl, _, rfl, ?_⟩
            simp only [g1.2, decide_true, Bool.not_true, Bool.false_eq_true, if_false]
            have hp0 : atI (List.map V.int rs.reverse) 0 = some (.int p0) := by rw [hpr]; exact atI_zero _ _
            refine v_places rfl hsv12 fun ts2 hts2 => ?_
            refine ⟨ts2, _, 0, _, rfl, rfl, .inr hts2, hp0, ?_⟩
            refine ⟨_, rfl, D, _, 0, _, rfl, rfl, .inl hD12, at0, _, rfl, x0, _, _, _, rfl, rfl, .inl hx12, atE rs m (by omega), ?_⟩
            refine ⟨_, _, rfl, rfl, _, rfl, ?_⟩
            rw [if_pos (decide_eq_true g2.1)]
            refine t_cb (t_cons (v_places rfl hsv12 fun ts3 hts3 => ?_))
            refine ⟨ts3, rs.reverse, rfl, .inr hts3, by rw [hpr]; simp, fun mx hmx hall => ?_⟩
            refine ⟨_, _, rfl, rfl, _, rfl, ?_⟩
            have hmx2 : Mt.rodE rs (m : Int) ≤ mx := by
              obtain ⟨x, hx, hle⟩ := g2.2
              have := hall x (List.mem_reverse.mpr hx)
              omega
            simp only [hmx2, decide_true, Bool.not_true, Bool.false_eq_true, if_false, tNext_ap]
            exact ⟨_, rfl, e12⟩
          · rintro σ' H12 ⟨w7, rfl, e12⟩
            dsimp only
            have hD12 := e12 _ _ hD11'
            have hx12 := e12 _ _ hx0
            have hy12 := e12 _ _ hx1
            have hsv12 := hsv11.same e12
            have hgv12 := hgv11.same e12
            have hp0 : atI (List.map V.int rs.reverse) 0 = some (.int p0) := by rw [hpr]; exact atI_zero _ _
            have ha0 : atI (List.map V.int (Mt.endsL rs n)) 0 = some (.int sa) := by
              have := atE rs 0 (by omega)
              rw [← f4 sa sr esa]
              exact this
            have hb0 : atI (List.map V.int (Mt.endsL gs n)) 0 = some (.int ga) := by
              have := atE gs 0 (by omega)
              rw [← f5 ga gr ega]
              exact this
            have hc0 : atI (List.map V.int (Mt.endsL rs n)) (2 * F + 1) = some (.int p0) := by
              have := atE rs (n - 1) (by omega)
              rw [show ((n - 1 : Nat) : Int) = 2 * F + 1 by omega, f3] at this
              exact this
            rw [tIfS_ap]
            refine ⟨_, rfl, D, _, 0, _, rfl, rfl, .inl hD12, at0, x0, _, 0, _, rfl, rfl, .inl hx12, ha0, ?_⟩
            refine v_place rfl (by rw [esa] at hsv12; exact hsv12) ?_
            refine ⟨rfl, _, rfl, ?_⟩
            simp only [decide_true, Bool.not_true, Bool.false_eq_true, if_false]
            refine ⟨_, rfl, D, _, 1, _, rfl, rfl, .inl hD12, at1, x1, _, 0, _, rfl, rfl, .inl hy12, hb0, ?_⟩
            refine v_place rfl (by rw [ega] at hgv12; exact hgv12) ?_
            refine ⟨rfl, _, rfl, ?_⟩
            simp only [decide_true, Bool.not_true, Bool.false_eq_true, if_false]
            refine ⟨_, rfl, D, _, 0, _, rfl, rfl, .inl hD12, at0, _, rfl, _, _, rfl, rfl, .inl ⟨by decide, by decide⟩, _, _, rfl, rfl, x0, _, _, _, rfl, rfl, .inl hx12, hc0, ?_⟩
            refine v_places rfl hsv12 fun ts2 hts2 => ?_
            refine ⟨ts2, _, 0, _, rfl, rfl, .inr hts2, hp0, rfl, _, rfl, ?_⟩
            simp only [decide_true, Bool.not_true, Bool.false_eq_true, if_false, tNext_ap]
            exact ⟨st9, _, _, _, _, _, _, _, _, rfl, e12 _ _ hd11, hs9⟩
    · rintro σ' H2 ⟨st, u2, u3, u4, u5, u6, u7, u8, u9, rfl, hd2, hst2⟩
      dsimp only
      rw [tRet_ap]
      exact k _
end
end Lw
namespace Lw
open PySem PySem.Spec PyProof.Rows L2 Sr
def lawK : Nat := 11
theorem facts {P : Program} {w : World} {K : PySem.W.Frag} {mg : Str → Option Value} {f : Addr} (S : SayL K mg) (hfa : mg ("law" : Str) = some (.ref f)) :
    ∃ fd : FuncData, (∀ (s : Shared) (v : Value), BindsTo s fd ⟨[v], []⟩ [("_law_script", v)]) ∧ ∀ base : Heap, K.In base → base.Ns mainGlobals mg → FnOk P w K mg base CX0 lawK f fd ["_law_script"] (spLaw K) := by
  obtain ⟨fd, F⟩ := S.c.def_ 42 (d := d_law) rfl
  have b := FunD.bindsA (ps := ["_law_script"]) F fun _ _ _ _ _ _ us hl => match us, hl with | [_], _ => rfl
  have ef : f = He.fAd K d_law.at_ := by
    have h1 := S_law S
    rw [hfa] at h1
    cases h1
    rfl
  subst ef
  refine ⟨fd, fun s v => b s [v] rfl, fun base _ _ => ?_⟩
  obtain ⟨f', fd', h1, h2, h3, h4, oc, od, osl, h5⟩ := (fn_law (P := P) (w := w) (base := base) S).ex
  rw [hfa] at h1
  cases h1
  obtain ⟨oc', od', osl', h6⟩ := F.at_
  have e : fd' = fd := by
    have := h5.symm.trans h6
    injection this with this
    injection this with _ _ this _
    injection this
  subst e
  exact h4
end Lw
namespace Lw
open PySem PySem.Spec PyProof.Rows L2 Sr
abbrev R : PySem.W.OpenRow := PySem.W.OpenLaw.row PySem.Challenge.rw_slackrods_k17_whole_unlike_memories_are
abbrev hk : PySem.W.Hook := hookM 7 fa fn gt ex
def ob (s : PySem.W.SharedT) : AlM := obM 7 fa fn gt ex (HandSHeadRun.getT s)
theorem ob_eq (s : PySem.W.SharedT) : ob s = hk.obs s.abs := obM_eq (HandSHeadRun.getT_eq s)
def loose0 : List PySem.Str := ["_wall", "RodError", "InvalidSlack", "InvalidTimes", "NotForward", "TooGreat", "InvalidPlace", "InvalidRow", "InvalidMemory", "FAR", "MAX_ROW", "is_int", "is_int_in", "is_place", "check_place", "check_row", "is_next", "moved", "Memory", "followed", "memory_of", "MAX_SLACK", "MAX_TIMES", "MAX_ARMS", "MAX_DEEP", "curve_of", "pull_of", "end_at", "never_falls", "sorted_arms"]
def loose1 : List PySem.Str := ["added", "bent", "greatest_slack", "driven", "Rig", "ends_from", "ends_of", "rod", "_law_random", "_law_below", "_law_row"]
def loose : List PySem.Str := loose0 ++ loose1
theorem run (w : World) : HandSHeadRun.RunEq R (PySem.W.view R.prog [46]) hk ob 6000 loose w := by
  intro os
  kernel_rfl
end Lw
open PySem PySem.W PySem.Calls PyProof.Rows
set_option maxHeartbeats 0 in
theorem PySem.Challenge.cw_slackrods_k17_whole_unlike_memories_are_holds : PySem.Challenge.rw_slackrods_k17_whole_unlike_memories_are.Holds := by
  w_on; o_law
  refine HandSHeadRun.head_any (r := OpenLaw.row PySem.Challenge.rw_slackrods_k17_whole_unlike_memories_are) (q := view (OpenLaw.row PySem.Challenge.rw_slackrods_k17_whole_unlike_memories_are).prog [46]) (H := Lw.hk) (ob := Lw.ob) (M := 6000) (loose := Lw.loose) (d := HandSHeadRun.topDef (OpenLaw.row PySem.Challenge.rw_slackrods_k17_whole_unlike_memories_are).prog 46) (kwd := []) Lw.ob_eq
    (by kernel_rfl) (fun s => by kernel_rfl) Lw.run (by kernel_rfl) (by kernel_rfl) (by kernel_rfl) (by rfl) (by first | assumption | decide +kernel) (by decide +kernel) ⟨rfl, rfl, rfl, rfl, rfl, by decide +kernel⟩ ?hw ?hc
  case hw => w_witness2
  case hc =>
    refine L2.walk_ofE (l := PySem.Challenge.rw_slackrods_k17_whole_unlike_memories_are) (n := 63) (k := Lw.lawK) (x := "_law_script") (CX := L2.CX0) rfl (by decide) (by kernel_rfl) ⟨rfl, by decide, by decide⟩ ?F (fun _ _ _ _ z => z)
    intro w mg fa h Y G hmg0
    obtain ⟨K, KX, c, p, m⟩ := Y
    have hmg : mg ("law" : PySem.Str) = some (.ref fa) := by
      have e : (HandSHeadRun.topDef (OpenLaw.row PySem.Challenge.rw_slackrods_k17_whole_unlike_memories_are).prog 46).name = ("law" : PySem.Str) := by kernel_rfl
      rw [← e]
      exact hmg0
    have S : Lw.SayL K mg := ⟨⟨h, KX, G⟩, c, p, m⟩
    obtain ⟨fd, hb, hF⟩ := Lw.facts (P := (PySem.Challenge.rw_slackrods_k17_whole_unlike_memories_are).prog) (w := w) S hmg
    exact ⟨K, fd, Sr.spLaw K, KX, hb, fun H a ns hl _ hS => ⟨a, ns, rfl, hS, hl, fun _ => rfl⟩, hF⟩

