import PyProof.Rows.All
import Wide.All
import OpenK.AllK
import Wide.FinOn
import HandS.ForMost
import HandS.TupAny
import HandS.Walk
import HandS.SetKeys
import HandS.DictTup
import PyProof.DictMoreH
import HandS.DictComp
import HandS.More
import HandS.SortInts
import KE.DataFind
import HandS.SortOrd
import HandS.SortRule
import HandS.Deep
import PyProof.P3Eq
import KE.KSortedM
import HandS.Zip
import PySem.Challenge.RW_spindlegate_k13_whole_dead_records_can_b
set_option Elab.async false
set_option maxRecDepth 100000
set_option autoImplicit false
set_option linter.unusedVariables false
/-! ## K13M -/
/-! The mathematics of the law: rows of topics, what a topic shows in a view, which records may be left out. -/
namespace K13
inductive Topic where
  | host (h : Int) | told (h : Int) | space (n : Int) | gone (n : Int) | place (n p : Int) | snap (n o : Int) | key (n h : Int) | hold (n : Int)
  deriving DecidableEq
/-- what a topic holds -/
inductive Vl where
  | non | num (i : Int) | ans (s c : Int) (a : Option (Option Int)) | tld (k : Int) | way (h : Int) (w : Bool)
  deriving DecidableEq
inductive Kd where
  | mark (t : Option Int) | make (n s : Int) | remove (n : Int) | write (n p v : Int) | trim (n p : Int) | snap (n : Int) | drop (n o : Int)
  | register (n : Int) | leave (n : Int) (held : Bool) | reserve (n : Int) (w : Bool) | release (n : Int) | preempt (n v : Int) (w : Option Bool)
  deriving DecidableEq
structure Rec where
  ord : Int
  kd : Kd
  host : Int
  ses : Int
  cnt : Int
  deriving DecidableEq
/-- the second part of a topic -/
def Topic.snd : Topic → Int
  | .host h => h | .told h => h | .space n => n | .gone n => n | .place n _ => n | .snap n _ => n | .key n _ => n | .hold n => n
/-- topics of hosts -/
def Topic.isH : Topic → Bool
  | .host _ => true | .told _ => true | _ => false
def Topic.isGone : Topic → Bool
  | .gone _ => true | _ => false
def Topic.isHost : Topic → Bool
  | .host _ => true | _ => false
def Topic.isPlace : Topic → Bool
  | .place _ _ => true | _ => false
/-- the topics that the law asks -/
def Topic.asked : Topic → Bool
  | .host _ => false | .gone _ => false | _ => true
def toldV : Option Int → Vl
  | none => .non | some k => .tld k
/-- the effects beside the host's -/
def effL (r : Rec) : List (Topic × Vl) :=
  match r.kd with
  | .mark t => [(.told r.host, toldV t)]
  | .make n s => [(.space n, .num s)]
  | .remove n => [(.gone n, .num r.ord)]
  | .write n p v => [(.place n p, .num v)]
  | .trim n p => [(.place n p, .non)]
  | .snap n => [(.snap n r.ord, .num r.ord)]
  | .drop n o => [(.snap n o, .non)]
  | .register n => [(.key n r.host, .num r.ord)]
  | .leave n held => (.key n r.host, .non) :: (if held then [(.hold n, .non)] else [])
  | .reserve n w => [(.hold n, .way r.host w)]
  | .release n => [(.hold n, .non)]
  | .preempt n v w => (.key n v, .non) :: (match w with | none => [] | some w => [(.hold n, .way r.host w)])
def ansOf (r : Rec) : Option (Option Int) :=
  match r.kd with
  | .mark _ => none
  | .snap _ => some (some r.ord)
  | .register _ => some (some r.ord)
  | _ => some none
def eff (r : Rec) : List (Topic × Vl) := (.host r.host, .ans r.ses r.cnt (ansOf r)) :: effL r
/-- one record's rows of a topic -/
def row1 (r : Rec) (t : Topic) : List (Int × Vl) := (eff r).filterMap fun e => if e.1 = t then some (r.ord, e.2) else none
def rows (L : List Rec) (t : Topic) : List (Int × Vl) := L.flatMap fun r => row1 r t
/-- a view: none is the present -/
def cnt (w : Option Int) (o : Int) : Bool :=
  match w with
  | none => true
  | some k => decide (o < k)
def hidden (L : List Rec) (t : Topic) (o : Int) (w : Option Int) : Bool :=
  !t.isH && (rows L (.gone t.snd)).any fun g => decide (o < g.1) && cnt w g.1
def rowsC (L : List Rec) (t : Topic) (w : Option Int) : List (Int × Vl) := (rows L t).filter fun g => cnt w g.1
def valAt (L : List Rec) (t : Topic) (w : Option Int) : Vl :=
  match (rowsC L t w).getLast? with
  | none => .non
  | some g => if hidden L t g.1 w then .non else g.2
/-- the law's own fold -/
def step1 (t : Topic) (v : Vl) (e : Topic × Vl) : Vl :=
  let v' := if e.1 = t then e.2 else v
  if e.1 = .gone t.snd && !(t.isGone || (match t with | .told _ => true | _ => false)) then .non else v'
def stepL (t : Topic) (v : Vl) (r : Rec) : Vl := (effL r).foldl (step1 t) v
def lawVal : List Rec → Topic → Option Int → Vl → Vl
  | [], _, _, v => v
  | r :: L, t, w, v => if cnt w r.ord then lawVal L t w (stepL t v r) else v
def Asc (L : List Rec) : Prop := L.Pairwise fun a b => a.ord < b.ord

theorem rows_append (A B : List Rec) (t : Topic) : rows (A ++ B) t = rows A t ++ rows B t := by simp [rows]
theorem rowsC_append (A B : List Rec) (t : Topic) (w : Option Int) : rowsC (A ++ B) t w = rowsC A t w ++ rowsC B t w := by simp [rowsC, rows_append]
theorem rows_cons (r : Rec) (B : List Rec) (t : Topic) : rows (r :: B) t = row1 r t ++ rows B t := by simp [rows]
theorem rows_one (r : Rec) (t : Topic) : rows [r] t = row1 r t := by simp [rows]
theorem mem_row1 {r : Rec} {t : Topic} {g : Int × Vl} : g ∈ row1 r t ↔ g.1 = r.ord ∧ (t, g.2) ∈ eff r := by
  unfold row1
  rw [List.mem_filterMap]
  constructor
  · rintro ⟨⟨t', v⟩, h, e⟩
    by_cases q : t' = t
    · rw [if_pos q] at e
      cases e
      subst q
      exact ⟨rfl, h⟩
    · rw [if_neg q] at e
      cases e
  · rintro ⟨e, h⟩
    refine ⟨_, h, ?_⟩
    rw [if_pos rfl]
    cases g
    cases e
    rfl
theorem mem_rows {L : List Rec} {t : Topic} {g : Int × Vl} : g ∈ rows L t ↔ ∃ r ∈ L, g.1 = r.ord ∧ (t, g.2) ∈ eff r := by
  unfold rows
  rw [List.mem_flatMap]
  constructor
  · rintro ⟨r, h, e⟩
    exact ⟨r, h, mem_row1.mp e⟩
  · rintro ⟨r, h, e⟩
    exact ⟨r, h, mem_row1.mpr e⟩
theorem Asc.inj {L : List Rec} (h : Asc L) {a b : Rec} (ha : a ∈ L) (hb : b ∈ L) (e : a.ord = b.ord) : a = b := by
  induction L with
  | nil => cases ha
  | cons r L ih =>
    have h' := List.pairwise_cons.mp h
    rcases List.mem_cons.mp ha with e1 | ha1
    · rcases List.mem_cons.mp hb with e2 | hb1
      · rw [e1, e2]
      · have q := h'.1 b hb1
        rw [← e1] at q
        omega
    · rcases List.mem_cons.mp hb with e2 | hb1
      · have q := h'.1 a ha1
        rw [← e2] at q
        omega
      · exact ih h'.2 ha1 hb1
/-- which record has a gone topic -/
theorem gone_eff {r : Rec} {n : Int} {v : Vl} (h : (Topic.gone n, v) ∈ eff r) : r.kd = .remove n := by
  unfold eff effL at h
  rcases List.mem_cons.mp h with e | h
  · cases e
  · revert h
    cases e : r.kd with
    | leave n' held => cases held <;> simp
    | preempt n' v' w' => cases w' <;> simp
    | remove n' => simp; intro a _; exact a.symm
    | _ => simp
/-- a snap topic with a value is set by its own record alone -/
theorem snap_eff {r : Rec} {n k : Int} {v : Vl} (h : (Topic.snap n k, v) ∈ eff r) (hv : v ≠ .non) : r.kd = .snap n ∧ r.ord = k := by
  unfold eff effL at h
  rcases List.mem_cons.mp h with e | h
  · cases e
  · revert h
    cases e : r.kd with
    | leave n' held => cases held <;> simp
    | preempt n' v' w' => cases w' <;> simp
    | snap n' => simp; intro a b _; exact ⟨a.symm, b.symm⟩
    | drop n' o' => simp; intro _ _ c; exact absurd c hv
    | _ => simp
end K13
namespace K13
theorem getLast?_append_ne {α : Type} (a : List α) {b : List α} (h : b ≠ []) : (a ++ b).getLast? = b.getLast? := by
  rw [List.getLast?_append]
  cases e : b.getLast? with
  | none => exact absurd (List.getLast?_eq_none_iff.mp e) h
  | some x => rfl
theorem asked_ne_host {t : Topic} (h : t.asked = true) (k : Int) : ¬ (Topic.host k) = t := by
  rintro rfl
  cases h
theorem asked_ne_gone {t : Topic} (h : t.asked = true) (k : Int) : ¬ (Topic.gone k) = t := by
  rintro rfl
  cases h
theorem row1_asked {r : Rec} {t : Topic} (h : t.asked = true) : row1 r t = (effL r).filterMap fun e => if e.1 = t then some (r.ord, e.2) else none := by
  unfold row1 eff
  rw [List.filterMap_cons, if_neg (asked_ne_host h _)]
/-- the fold over effects without a gone topic -/
theorem fold_plain {t : Topic} (o : Int) : ∀ (l : List (Topic × Vl)) (v : Vl), (∀ e ∈ l, e.1.isGone = false) →
    l.foldl (step1 t) v = (((l.filterMap fun e => if e.1 = t then some (o, e.2) else none).getLast?).map (·.2)).getD v := by
  intro l
  induction l with
  | nil => intro v _; rfl
  | cons e l ih =>
    intro v h
    have hg : e.1.isGone = false := h e List.mem_cons_self
    have ne : ¬ e.1 = .gone t.snd := fun q => by rw [q] at hg; cases hg
    have s1 : step1 t v e = if e.1 = t then e.2 else v := by
      unfold step1
      simp [ne]
    rw [List.foldl_cons, ih _ (fun x hx => h x (List.mem_cons_of_mem _ hx)), s1, List.filterMap_cons]
    by_cases q : e.1 = t
    · rw [if_pos q, if_pos q]
      simp only [List.getLast?_cons]
      cases ((l.filterMap fun e => if e.1 = t then some (o, e.2) else none).getLast?) with
      | none => rfl
      | some x => rfl
    · rw [if_neg q, if_neg q]
theorem effL_noGone {r : Rec} (h : ∀ n, r.kd ≠ .remove n) : ∀ e ∈ effL r, e.1.isGone = false := by
  rintro ⟨t, v⟩ he
  cases t with
  | gone n => exact absurd (gone_eff (r := r) (n := n) (v := v) (List.mem_cons_of_mem _ he)) (h n)
  | _ => rfl
theorem row1_gone_nil {r : Rec} (h : ∀ n, r.kd ≠ .remove n) (n : Int) : row1 r (.gone n) = [] := by
  rw [List.eq_nil_iff_forall_not_mem]
  intro g hg
  exact h n (gone_eff (mem_row1.mp hg).2)
theorem hidden_append (A B : List Rec) (t : Topic) (o : Int) (w : Option Int) : hidden (A ++ B) t o w = (hidden A t o w || hidden B t o w) := by
  unfold hidden
  rw [rows_append, List.any_append]
  cases t.isH <;> simp
theorem hidden_none {L : List Rec} {t : Topic} {o : Int} {w : Option Int} (h : ∀ r ∈ L, r.ord ≤ o ∨ cnt w r.ord = false) : hidden L t o w = false := by
  unfold hidden
  rw [Bool.and_eq_false_iff]
  right
  rw [List.any_eq_false]
  intro g hg
  obtain ⟨r, hr, e, _⟩ := mem_rows.mp hg
  rcases h r hr with q | q
  · have : ¬ o < g.1 := by omega
    simp [this]
  · rw [e, q]
    simp
theorem rowsC_one {r : Rec} {t : Topic} {w : Option Int} (h : cnt w r.ord = true) : rowsC [r] t w = row1 r t := by
  unfold rowsC
  rw [rows_one, List.filter_eq_self]
  intro g hg
  rw [(mem_row1.mp hg).1]
  exact h
theorem step_ok {P : List Rec} {r : Rec} {t : Topic} {w : Option Int} (ha : Asc (P ++ [r])) (hc : cnt w r.ord = true) (ht : t.asked = true) : stepL t (valAt P t w) r = valAt (P ++ [r]) t w := by
  have hlt : ∀ a ∈ P, a.ord < r.ord := fun a h => (List.pairwise_append.mp ha).2.2 a h r List.mem_cons_self
  have hlr : ∀ g ∈ rowsC P t w, g.1 < r.ord := fun g hg => by
    obtain ⟨a, h, e, _⟩ := mem_rows.mp (List.mem_filter.mp hg).1
    rw [e]
    exact hlt a h
  by_cases hr : ∃ n, r.kd = .remove n
  · obtain ⟨n, hr⟩ := hr
    have he : effL r = [(.gone n, .num r.ord)] := by unfold effL; rw [hr]
    have hnil : row1 r t = [] := by
      rw [row1_asked ht, he]
      simp [asked_ne_gone ht n]
    have hC : rowsC (P ++ [r]) t w = rowsC P t w := by rw [rowsC_append, rowsC_one hc, hnil, List.append_nil]
    have hg : row1 r (.gone n) = [(r.ord, .num r.ord)] := by
      unfold row1 eff
      rw [he]
      simp
    have hs : stepL t (valAt P t w) r = if n = t.snd ∧ t.isH = false then .non else valAt P t w := by
      unfold stepL
      rw [he]
      cases t <;> simp_all [step1, Topic.asked, Topic.isH, Topic.isGone]
    rw [hs]
    by_cases q : n = t.snd ∧ t.isH = false
    · rw [if_pos q]
      unfold valAt
      rw [hC]
      cases e : (rowsC P t w).getLast? with
      | none => rfl
      | some g =>
        have hgl : g.1 < r.ord := hlr g (List.mem_of_getLast? e)
        have : hidden (P ++ [r]) t g.1 w = true := by
          rw [hidden_append]
          have h2 : hidden [r] t g.1 w = true := by
            unfold hidden
            rw [rows_one, ← q.1, hg, q.2]
            simp [hgl, hc]
          rw [h2, Bool.or_true]
        simp [this]
    · rw [if_neg q]
      unfold valAt
      rw [hC]
      cases e : (rowsC P t w).getLast? with
      | none => rfl
      | some g =>
        have h2 : hidden [r] t g.1 w = false := by
          unfold hidden
          rw [rows_one]
          by_cases q1 : t.isH = false
          · have q2 : ¬ n = t.snd := fun z => q ⟨z, q1⟩
            have : row1 r (.gone t.snd) = [] := by
              rw [List.eq_nil_iff_forall_not_mem]
              intro x hx
              have := gone_eff (mem_row1.mp hx).2
              rw [hr] at this
              cases this
              exact q2 rfl
            rw [this]
            simp
          · have : t.isH = true := by simpa using q1
            rw [this]
            rfl
        dsimp only
        rw [hidden_append, h2, Bool.or_false]
  · have hr' : ∀ n, r.kd ≠ .remove n := fun n q => hr ⟨n, q⟩
    have hs := fold_plain (t := t) r.ord (effL r) (valAt P t w) (effL_noGone hr')
    rw [← row1_asked ht] at hs
    have h2 : ∀ o, hidden [r] t o w = false := fun o => by
      unfold hidden
      rw [rows_one, row1_gone_nil hr']
      simp
    unfold stepL
    rw [hs]
    unfold valAt
    rw [rowsC_append, rowsC_one hc]
    by_cases hn : row1 r t = []
    · rw [hn, List.append_nil]
      cases e : (rowsC P t w).getLast? with
      | none => rfl
      | some g =>
        have h3 : hidden (P ++ [r]) t g.1 w = hidden P t g.1 w := by rw [hidden_append, h2, Bool.or_false]
        dsimp only
        rw [h3]
        rfl
    · rw [getLast?_append_ne _ hn]
      cases e : (row1 r t).getLast? with
      | none => exact absurd (List.getLast?_eq_none_iff.mp e) hn
      | some g =>
        have hgo : g.1 = r.ord := (mem_row1.mp (List.mem_of_getLast? e)).1
        have : hidden (P ++ [r]) t g.1 w = false := by
          rw [hidden_append, h2, Bool.or_false]
          exact hidden_none fun a h => .inl (by have := hlt a h; omega)
        simp [this]
theorem rest_out {P L : List Rec} {t : Topic} {w : Option Int} (h : ∀ r ∈ L, cnt w r.ord = false) : valAt (P ++ L) t w = valAt P t w := by
  have e1 : rowsC L t w = [] := by
    rw [List.eq_nil_iff_forall_not_mem]
    intro g hg
    obtain ⟨h1, h2⟩ := List.mem_filter.mp hg
    obtain ⟨r, hr, e, _⟩ := mem_rows.mp h1
    rw [e, h r hr] at h2
    cases h2
  unfold valAt
  rw [rowsC_append, e1, List.append_nil]
  cases e : (rowsC P t w).getLast? with
  | none => rfl
  | some g =>
    dsimp only
    rw [hidden_append, hidden_none (L := L) (fun r hr => .inr (h r hr)), Bool.or_false]
theorem cnt_up {w : Option Int} {a b : Int} (h : a ≤ b) (q : cnt w a = false) : cnt w b = false := by
  cases w with
  | none => cases q
  | some k =>
    simp only [cnt, decide_eq_false_iff_not] at q ⊢
    omega
theorem lawVal_from {t : Topic} {w : Option Int} (ht : t.asked = true) : ∀ (L P : List Rec), Asc (P ++ L) → lawVal L t w (valAt P t w) = valAt (P ++ L) t w := by
  intro L
  induction L with
  | nil => intro P _; simp [lawVal]
  | cons r L ih =>
    intro P ha
    have e : P ++ r :: L = (P ++ [r]) ++ L := by simp
    have ha2 : Asc ((P ++ [r]) ++ L) := by rw [← e]; exact ha
    unfold lawVal
    by_cases hc : cnt w r.ord = true
    · rw [if_pos hc, step_ok (List.pairwise_append.mp ha2).1 hc ht, ih _ ha2, e]
    · have hf : cnt w r.ord = false := by simpa using hc
      rw [if_neg hc]
      refine (rest_out fun a h => ?_).symm
      rcases List.mem_cons.mp h with e1 | h1
      · rw [e1]; exact hf
      · exact cnt_up (Int.le_of_lt ((List.pairwise_cons.mp (List.pairwise_append.mp ha).2.1).1 a h1)) hf
/-- T1: the law's fold and value_at agree -/
theorem lawVal_eq {L : List Rec} {t : Topic} {w : Option Int} (ht : t.asked = true) (ha : Asc L) : lawVal L t w .non = valAt L t w :=
  lawVal_from ht L [] ha
end K13
namespace K13
/-- the record touches the namespace -/
def touches (n : Int) (r : Rec) : Bool := (eff r).any fun e => !e.1.isH && decide (e.1.snd = n)
def oldest (L : List Rec) (n : Int) : Option Int := (L.find? (touches n)).map (·.ord)
/-- the snapshot exists -/
def ex (L : List Rec) (n k : Int) : Prop := valAt L (.snap n k) none ≠ .non
/-- the views of a topic at which its records are asked -/
def viewOf (L : List Rec) (t : Topic) (w : Option Int) : Prop := w = none ∨ ∃ n p k, t = .place n p ∧ w = some k ∧ ex L n k
/-- p holds of each record that is live -/
structure Keeps (L : List Rec) (p : Rec → Bool) : Prop where
  row : ∀ t w g, t.asked = true → viewOf L t w → (rowsC L t w).getLast? = some g → hidden L t g.1 w = false → ((rowsC L t w).length ≠ 1 ∨ g.2 ≠ .non) → ∀ r ∈ L, r.ord = g.1 → p r = true
  gone : ∀ n g o, (rows L (.gone n)).getLast? = some g → oldest L n = some o → o < g.1 → ∀ r ∈ L, r.ord = g.1 → p r = true
theorem oldest_le {L : List Rec} (ha : Asc L) {n : Int} {r : Rec} (hr : r ∈ L) (ht : touches n r = true) : ∃ o, oldest L n = some o ∧ o ≤ r.ord := by
  unfold oldest
  induction L with
  | nil => cases hr
  | cons a L ih =>
    rw [List.find?_cons]
    cases q : touches n a with
    | true =>
      refine ⟨a.ord, rfl, ?_⟩
      rcases List.mem_cons.mp hr with e | h
      · rw [e]; exact Int.le_refl _
      · exact Int.le_of_lt ((List.pairwise_cons.mp ha).1 r h)
    | false =>
      rcases List.mem_cons.mp hr with e | h
      · rw [e, q] at ht; cases ht
      · exact ih (List.pairwise_cons.mp ha).2 h
theorem touches_of {r : Rec} {t : Topic} {v : Vl} (h : (t, v) ∈ eff r) (hH : t.isH = false) : touches t.snd r = true := by
  unfold touches
  rw [List.any_eq_true]
  exact ⟨_, h, by simp [hH]⟩
theorem row1_sorted (r : Rec) (t : Topic) : (row1 r t).Pairwise fun a b => a.1 ≤ b.1 := by
  have all : ∀ l : List (Int × Vl), (∀ x ∈ l, x.1 = r.ord) → l.Pairwise fun a b => a.1 ≤ b.1 := by
    intro l
    induction l with
    | nil => intro _; exact List.Pairwise.nil
    | cons x l ih =>
      intro h
      refine List.pairwise_cons.mpr ⟨fun y hy => ?_, ih fun y hy => h y (List.mem_cons_of_mem _ hy)⟩
      rw [h x List.mem_cons_self, h y (List.mem_cons_of_mem _ hy)]
      exact Int.le_refl _
  exact all _ fun x hx => (mem_row1.mp hx).1
theorem rows_sorted {L : List Rec} (ha : Asc L) (t : Topic) : (rows L t).Pairwise fun a b => a.1 ≤ b.1 := by
  induction L with
  | nil => exact List.Pairwise.nil
  | cons r L ih =>
    rw [rows_cons, List.pairwise_append]
    refine ⟨row1_sorted r t, ih (List.pairwise_cons.mp ha).2, fun a h1 b h2 => ?_⟩
    obtain ⟨c, hc, e, _⟩ := mem_rows.mp h2
    rw [(mem_row1.mp h1).1, e]
    exact Int.le_of_lt ((List.pairwise_cons.mp ha).1 c hc)
theorem last_max {l : List (Int × Vl)} (h : l.Pairwise fun a b => a.1 ≤ b.1) {g : Int × Vl} (e : l.getLast? = some g) : ∀ x ∈ l, x.1 ≤ g.1 := by
  intro x hx
  obtain ⟨a, rfl⟩ := List.getLast?_eq_some_iff.mp e
  rcases List.mem_append.mp hx with q | q
  · exact (List.pairwise_append.mp h).2.2 x q g List.mem_cons_self
  · rw [List.mem_singleton.mp q]
    exact Int.le_refl _
theorem rowsC_sorted {L : List Rec} (ha : Asc L) (t : Topic) (w : Option Int) : (rowsC L t w).Pairwise fun a b => a.1 ≤ b.1 := (rows_sorted ha t).filter _
theorem rows_filter_sub (L : List Rec) (p : Rec → Bool) (t : Topic) : (rows (L.filter p) t).Sublist (rows L t) := by
  induction L with
  | nil => exact List.Sublist.refl _
  | cons r L ih =>
    rw [List.filter_cons]
    by_cases q : p r = true
    · rw [if_pos q, rows_cons, rows_cons]
      exact List.Sublist.append (List.Sublist.refl _) ih
    · rw [if_neg q, rows_cons]
      exact ih.trans (List.sublist_append_right _ _)
theorem rowsC_filter_sub (L : List Rec) (p : Rec → Bool) (t : Topic) (w : Option Int) : (rowsC (L.filter p) t w).Sublist (rowsC L t w) := (rows_filter_sub L p t).filter _
theorem asc_filter {L : List Rec} (ha : Asc L) (p : Rec → Bool) : Asc (L.filter p) := ha.filter _
theorem hidden_filter {L : List Rec} {p : Rec → Bool} {t : Topic} {o : Int} {w : Option Int} (h : hidden L t o w = false) : hidden (L.filter p) t o w = false := by
  unfold hidden at h ⊢
  rw [Bool.and_eq_false_iff] at h ⊢
  rcases h with h | h
  · exact .inl h
  · refine .inr ?_
    rw [List.any_eq_false] at h ⊢
    exact fun x hx => h x ((rows_filter_sub L p _).mem hx)
/-- the last row's record splits the list -/
theorem split_last {L : List Rec} (ha : Asc L) {t : Topic} {w : Option Int} {g : Int × Vl} (e : (rowsC L t w).getLast? = some g) :
    ∃ A r B, L = A ++ r :: B ∧ r.ord = g.1 ∧ (t, g.2) ∈ eff r ∧ rowsC B t w = [] ∧ (rowsC [r] t w).getLast? = some g := by
  have hg := List.mem_of_getLast? e
  obtain ⟨r, hr, e1, e2⟩ := mem_rows.mp (List.mem_filter.mp hg).1
  have hcg : cnt w g.1 = true := (List.mem_filter.mp hg).2
  obtain ⟨A, B, rfl⟩ := List.append_of_mem hr
  have hB : rowsC B t w = [] := by
    rw [List.eq_nil_iff_forall_not_mem]
    intro x hx
    have m : x ∈ rowsC (A ++ r :: B) t w := by
      rw [rowsC_append, show r :: B = [r] ++ B from rfl, rowsC_append]
      exact List.mem_append_right _ (List.mem_append_right _ hx)
    have h1 := last_max (rowsC_sorted ha t w) e x m
    obtain ⟨c, hc, e3, _⟩ := mem_rows.mp (List.mem_filter.mp hx).1
    have h2 := (List.pairwise_cons.mp (List.pairwise_append.mp ha).2.1).1 c hc
    omega
  refine ⟨A, r, B, rfl, e1.symm, e2, hB, ?_⟩
  rw [rowsC_append, show r :: B = [r] ++ B from rfl, rowsC_append, hB, List.append_nil] at e
  have hne : rowsC [r] t w ≠ [] := by
    have : g ∈ rowsC [r] t w := by
      rw [rowsC_one (by rw [← e1]; exact hcg)]
      exact mem_row1.mpr ⟨e1, e2⟩
    exact List.ne_nil_of_mem this
  rw [getLast?_append_ne _ hne] at e
  exact e
/-- the order of a snapshot that exists is that of its own record -/
theorem ex_rec {L : List Rec} {n k : Int} (h : ex L n k) : ∃ r ∈ L, r.kd = .snap n ∧ r.ord = k ∧ ∀ g ∈ rows L (.gone n), g.1 ≤ k := by
  unfold ex valAt at h
  cases e : (rowsC L (.snap n k) none).getLast? with
  | none => rw [e] at h; exact absurd rfl h
  | some g =>
    rw [e] at h
    dsimp only at h
    cases q : hidden L (.snap n k) g.1 none with
    | true => rw [q, if_pos rfl] at h; exact absurd rfl h
    | false =>
      rw [q, if_neg (by decide)] at h
      obtain ⟨r, hr, e1, e2⟩ := mem_rows.mp (List.mem_filter.mp (List.mem_of_getLast? e)).1
      obtain ⟨h1, h2⟩ := snap_eff e2 h
      refine ⟨r, hr, h1, h2, fun x hx => ?_⟩
      unfold hidden at q
      simp only [Topic.isH, Topic.snd, Bool.not_false, Bool.true_and, List.any_eq_false, cnt, Bool.and_true, decide_eq_true_eq] at q
      have := q x hx
      omega
/-- .. and every gone record of its namespace is before it -/
theorem ex_gone {L : List Rec} (ha : Asc L) {n k : Int} (h : ex L n k) : ∀ g ∈ rows L (.gone n), g.1 < k := by
  intro g hg
  obtain ⟨r, hr, h1, h2, h3⟩ := ex_rec h
  have h4 := h3 g hg
  obtain ⟨c, hc, e3, e4⟩ := mem_rows.mp hg
  by_cases q : g.1 = k
  · have : c = r := ha.inj hc hr (by omega)
    have e5 := gone_eff e4
    rw [this, h1] at e5
    cases e5
  · omega
/-- T2: leaving out records that are not live changes no value -/
theorem keep_val {L : List Rec} (ha : Asc L) {p q : Rec → Bool} (K : Keeps L p) (hpq : ∀ r ∈ L, p r = true → q r = true) {t : Topic} {w : Option Int} (ht : t.asked = true) (hw : viewOf L t w) :
    valAt (L.filter q) t w = valAt L t w := by
  have sub := rowsC_filter_sub L q t w
  cases e : (rowsC L t w).getLast? with
  | none =>
    have h0 : rowsC L t w = [] := List.getLast?_eq_none_iff.mp e
    have h1 : rowsC (L.filter q) t w = [] := by
      rw [h0] at sub
      exact List.sublist_nil.mp sub
    unfold valAt
    rw [h0, h1]
    rfl
  | some g =>
    cases hh : hidden L t g.1 w with
    | false =>
      have vL : valAt L t w = g.2 := by
        unfold valAt
        rw [e]
        dsimp only
        rw [hh]
        rfl
      rw [vL]
      by_cases hlive : (rowsC L t w).length ≠ 1 ∨ g.2 ≠ .non
      · obtain ⟨A, r, B, hL, e1, e2, hB, hl⟩ := split_last ha e
        have hr : r ∈ L := by rw [hL]; exact List.mem_append_right _ List.mem_cons_self
        have hq : q r = true := hpq r hr (K.row t w g ht hw e hh hlive r hr e1)
        have e3 : (rowsC (L.filter q) t w).getLast? = some g := by
          rw [hL, List.filter_append, List.filter_cons, if_pos hq, rowsC_append, show r :: B.filter q = [r] ++ B.filter q from rfl, rowsC_append]
          have : rowsC (B.filter q) t w = [] := by
            have s2 := rowsC_filter_sub B q t w
            rw [hB] at s2
            exact List.sublist_nil.mp s2
          rw [this, List.append_nil, getLast?_append_ne _ (fun z => by rw [z] at hl; cases hl)]
          exact hl
        unfold valAt
        rw [e3]
        dsimp only
        rw [hidden_filter hh]
        rfl
      · have h1 : (rowsC L t w).length = 1 := Decidable.byContradiction fun z => hlive (.inl z)
        have h2 : g.2 = .non := Decidable.byContradiction fun z => hlive (.inr z)
        obtain ⟨x, hx⟩ := List.length_eq_one_iff.mp h1
        rw [hx] at e sub
        have hxg : x = g := by simpa using e
        rw [h2]
        unfold valAt
        cases e4 : (rowsC (L.filter q) t w).getLast? with
        | none => rfl
        | some y =>
          have hy : y = x := List.mem_singleton.mp (sub.mem (List.mem_of_getLast? e4))
          rw [hy, hxg]
          simp [h2]
    | true =>
      have vL : valAt L t w = .non := by
        unfold valAt
        rw [e]
        dsimp only
        rw [hh]
        rfl
      rw [vL]
      unfold valAt
      cases e2 : (rowsC (L.filter q) t w).getLast? with
      | none => rfl
      | some g' =>
        dsimp only
        have hle : g'.1 ≤ g.1 := last_max (rowsC_sorted ha t w) e g' (sub.mem (List.mem_of_getLast? e2))
        -- the last gone record is live
        have hH : t.isH = false := by
          unfold hidden at hh
          rw [Bool.and_eq_true] at hh
          simpa using hh.1
        obtain ⟨x, hx, hx1, hx2⟩ : ∃ x ∈ rows L (.gone t.snd), g.1 < x.1 ∧ cnt w x.1 = true := by
          unfold hidden at hh
          rw [Bool.and_eq_true, List.any_eq_true] at hh
          obtain ⟨_, x, hx, h3⟩ := hh
          simp only [Bool.and_eq_true, decide_eq_true_eq] at h3
          exact ⟨x, hx, h3.1, h3.2⟩
        cases eG : (rows L (.gone t.snd)).getLast? with
        | none =>
          rw [List.getLast?_eq_none_iff.mp eG] at hx
          cases hx
        | some G =>
          have hxG := last_max (rows_sorted ha _) eG x hx
          have mG := List.mem_of_getLast? eG
          have cG : cnt w G.1 = true := by
            rcases hw with q1 | ⟨n, p', k, q1, q2, q3⟩
            · rw [q1]; rfl
            · rw [q2]
              rw [q1] at mG
              have := ex_gone ha q3 G mG
              simp [cnt, this]
          obtain ⟨r0, hr0, f1, f2⟩ := mem_rows.mp (List.mem_filter.mp (List.mem_of_getLast? e)).1
          obtain ⟨o, ho, hoo⟩ := oldest_le ha hr0 (touches_of f2 hH)
          obtain ⟨rG, hrG, f3, f4⟩ := mem_rows.mp mG
          have hq : q rG = true := hpq rG hrG (K.gone t.snd G o eG ho (by omega) rG hrG f3.symm)
          have mG2 : G ∈ rows (L.filter q) (.gone t.snd) := mem_rows.mpr ⟨rG, List.mem_filter.mpr ⟨hrG, hq⟩, f3, f4⟩
          have : hidden (L.filter q) t g'.1 w = true := by
            unfold hidden
            rw [Bool.and_eq_true, List.any_eq_true]
            refine ⟨by rw [hH]; rfl, G, mG2, ?_⟩
            rw [cG, Bool.and_true, decide_eq_true_eq]
            omega
          rw [this]
          rfl
/-- nothing that is asked has changed -/
structure Alike (L0 L : List Rec) : Prop where
  now : ∀ t, t.asked = true → valAt L t none = valAt L0 t none
  then_ : ∀ n p k, ex L0 n k → valAt L (.place n p) (some k) = valAt L0 (.place n p) (some k)
theorem Alike.ex {L0 L : List Rec} (S : Alike L0 L) (n k : Int) : K13.ex L n k ↔ K13.ex L0 n k := by
  unfold K13.ex
  rw [S.now _ rfl]
theorem Alike.refl (L : List Rec) : Alike L L := ⟨fun _ _ => rfl, fun _ _ _ _ => rfl⟩
theorem Alike.step {L0 L : List Rec} (S : Alike L0 L) (ha : Asc L) {p q : Rec → Bool} (K : Keeps L p) (hpq : ∀ r ∈ L, p r = true → q r = true) : Alike L0 (L.filter q) where
  now := fun t ht => (keep_val ha K hpq ht (.inl rfl)).trans (S.now t ht)
  then_ := fun n p' k h => (keep_val ha K hpq (t := .place n p') rfl (.inr ⟨n, p', k, rfl, rfl, (S.ex n k).mpr h⟩)).trans (S.then_ n p' k h)
end K13
/-! ## K13R -/
/-! Rules of our own: expressions whose values are data (ints, texts, bools, None, tuples of them). -/
namespace K13
open PySem L2
mutual
/-- the value v is the data d -/
def Tp (H : Hp) : PyData → V → Prop
  | .none, v => v = .non
  | .bool b, v => v = .bl b
  | .int i, v => v = .int i
  | .str x, v => v = .str x
  | .tuple ds, v => ∃ a xs, v = .ref a ∧ H a = some (.tup xs) ∧ TpAll H ds xs
  | .list _, _ => False
  | .dict _, _ => False
def TpAll (H : Hp) : List PyData → List V → Prop
  | [], xs => xs = []
  | d :: ds, xs => ∃ x r, xs = x :: r ∧ Tp H d x ∧ TpAll H ds r
end
/-- the tuples stay -/
def Tups (H H' : Hp) : Prop := ∀ b xs, H b = some (.tup xs) → H' b = some (.tup xs)
theorem _root_.L2.Same.t {H H' : Hp} (s : L2.Same H H') : Tups H H' := fun b xs e => s b _ e
theorem Tups.trans {H H1 H2 : Hp} (a : Tups H H1) (b : Tups H1 H2) : Tups H H2 := fun c xs e => b c xs (a c xs e)
/-- all but what stands at S is as it was -/
structure Bar (S : List Addr) (H H' : Hp) : Prop where
  keep : ∀ b o, H b = some o → b ∉ S → H' b = some o
  t : Tups H H'
  free : ∀ b, H' b = none → H b = none
theorem _root_.L2.Same.bar {H H' : Hp} (s : L2.Same H H') (S : List Addr) : Bar S H H' := ⟨fun b o e _ => s b o e, s.t, fun _ e => s.free e⟩
theorem Bar.refl (S : List Addr) (H : Hp) : Bar S H H := (L2.Same.refl H).bar S
theorem Bar.trans {S : List Addr} {H H1 H2 : Hp} (a : Bar S H H1) (b : Bar S H1 H2) : Bar S H H2 :=
  ⟨fun c o e n => b.keep c o (a.keep c o e n) n, a.t.trans b.t, fun c e => a.free c (b.free c e)⟩
theorem Bar.mono {S T : List Addr} {H H1 : Hp} (a : Bar S H H1) (h : ∀ x ∈ S, x ∈ T) : Bar T H H1 := ⟨fun c o e n => a.keep c o e fun z => n (h c z), a.t, a.free⟩
theorem Bar.same {S : List Addr} {H H1 H2 : Hp} (b : Bar S H1 H2) (s : L2.Same H H1) (h : ∀ x ∈ S, H x = none) : L2.Same H H2 := fun c o e =>
  b.keep c o (s c o e) fun z => by rw [h c z] at e; cases e
theorem Bar.lst {H : Hp} {l : Addr} {xs : List V} {o : HO} (h : H l = some (.lst xs)) : Bar [l] H (upd H l o) :=
  ⟨fun b u e n => by rw [upd_ne (fun z => n (by rw [z]; exact List.mem_cons_self))]; exact e, fun b ys e => by rw [upd_ne (fun z => by rw [z, h] at e; cases e)]; exact e,
    fun b e => by
      by_cases z : b = l
      · rw [z, upd_same] at e; cases e
      · rw [upd_ne z] at e; exact e⟩
mutual
theorem Tp.mono {H H' : Hp} (e : Tups H H') : ∀ {d : PyData} {v : V}, Tp H d v → Tp H' d v
  | .none, _, h => by simpa only [Tp] using h
  | .bool b, _, h => by simpa only [Tp] using h
  | .int i, _, h => by simpa only [Tp] using h
  | .str x, _, h => by simpa only [Tp] using h
  | .tuple ds, _, h => by
    simp only [Tp] at h ⊢
    obtain ⟨a, xs, h1, h2, h3⟩ := h
    exact ⟨a, xs, h1, e _ _ h2, TpAll.mono e h3⟩
  | .list _, _, h => by simp only [Tp] at h
  | .dict _, _, h => by simp only [Tp] at h
theorem TpAll.mono {H H' : Hp} (e : Tups H H') : ∀ {ds : List PyData} {xs : List V}, TpAll H ds xs → TpAll H' ds xs
  | [], _, h => by simpa only [TpAll] using h
  | d :: ds, _, h => by
    simp only [TpAll] at h ⊢
    obtain ⟨x, r, h1, h2, h3⟩ := h
    exact ⟨x, r, h1, Tp.mono e h2, TpAll.mono e h3⟩
end
mutual
theorem Tp.dp {K : PySem.W.Frag} {H : Hp} : ∀ {d : PyData} {v : V}, Tp H d v → Dp K H v d
  | .none, _, h => by simp only [Tp] at h; subst h; exact .non
  | .bool b, _, h => by simp only [Tp] at h; subst h; exact .bl b
  | .int i, _, h => by simp only [Tp] at h; subst h; exact .int i
  | .str x, _, h => by simp only [Tp] at h; subst h; exact .str x
  | .tuple ds, _, h => by
    simp only [Tp] at h
    obtain ⟨a, xs, h1, h2, h3⟩ := h
    subst h1
    exact .tup (SqT.of h2) (TpAll.dp h3)
  | .list _, _, h => by simp only [Tp] at h
  | .dict _, _, h => by simp only [Tp] at h
theorem TpAll.dp {K : PySem.W.Frag} {H : Hp} : ∀ {ds : List PyData} {xs : List V}, TpAll H ds xs → DpAll K H xs ds
  | [], _, h => by simp only [TpAll] at h; subst h; exact .nil
  | d :: ds, _, h => by
    simp only [TpAll] at h
    obtain ⟨x, r, h1, h2, h3⟩ := h
    subst h1
    exact .cons (Tp.dp h2) (TpAll.dp h3)
end
theorem TpAll.length {H : Hp} : ∀ {ds : List PyData} {xs : List V}, TpAll H ds xs → ds.length = xs.length
  | [], _, h => by simp only [TpAll] at h; subst h; rfl
  | d :: ds, _, h => by
    simp only [TpAll] at h
    obtain ⟨x, r, h1, h2, h3⟩ := h
    subst h1
    simp only [List.length_cons, TpAll.length h3]
theorem TpAll.get {H : Hp} : ∀ {ds : List PyData} {xs : List V} {i : Nat} {d : PyData}, TpAll H ds xs → ds[i]? = some d → ∃ v, xs[i]? = some v ∧ Tp H d v
  | [], _, _, _, _, e => by simp at e
  | d :: ds, _, 0, _, h, e => by
    simp only [TpAll] at h
    obtain ⟨x, r, h1, h2, h3⟩ := h
    subst h1
    simp only [List.getElem?_cons_zero, Option.some.injEq] at e
    subst e
    exact ⟨x, rfl, h2⟩
  | d :: ds, _, i + 1, _, h, e => by
    simp only [TpAll] at h
    obtain ⟨x, r, h1, h2, h3⟩ := h
    subst h1
    obtain ⟨v, e1, e2⟩ := TpAll.get (i := i) h3 (by simpa using e)
    exact ⟨v, by simpa using e1, e2⟩
theorem TpAll.get' {H : Hp} : ∀ {ds : List PyData} {xs : List V} {i : Nat} {v : V}, TpAll H ds xs → xs[i]? = some v → ∃ d, ds[i]? = some d ∧ Tp H d v := by
  intro ds xs i v h e
  obtain ⟨hi, _⟩ := List.getElem?_eq_some_iff.mp e
  have hl := h.length
  have e2 : ds[i]? = some (ds[i]'(by omega)) := List.getElem?_eq_getElem (by omega)
  obtain ⟨v', e3, t⟩ := h.get e2
  rw [e] at e3
  cases e3
  exact ⟨_, e2, t⟩
theorem TpAll.drop {H : Hp} : ∀ (n : Nat) {ds : List PyData} {xs : List V}, TpAll H ds xs → TpAll H (ds.drop n) (xs.drop n)
  | 0, _, _, h => h
  | n + 1, [], _, h => by simp only [TpAll] at h; subst h; simp only [List.drop_nil, TpAll]
  | n + 1, d :: ds, _, h => by
    simp only [TpAll] at h
    obtain ⟨x, r, h1, h2, h3⟩ := h
    subst h1
    exact TpAll.drop n h3
theorem TpAll.take {H : Hp} : ∀ (n : Nat) {ds : List PyData} {xs : List V}, TpAll H ds xs → TpAll H (ds.take n) (xs.take n)
  | 0, _, _, h => by simp only [List.take_zero, TpAll]
  | n + 1, [], _, h => by simp only [TpAll] at h; subst h; simp only [List.take_nil, TpAll]
  | n + 1, d :: ds, _, h => by
    simp only [TpAll] at h
    obtain ⟨x, r, h1, h2, h3⟩ := h
    subst h1
    simp only [List.take_succ_cons, TpAll]
    exact ⟨x, _, rfl, h2, TpAll.take n h3⟩
theorem TpAll.append {H : Hp} : ∀ {ds es : List PyData} {xs ys : List V}, TpAll H ds xs → TpAll H es ys → TpAll H (ds ++ es) (xs ++ ys)
  | [], _, _, _, h, k => by simp only [TpAll] at h; subst h; exact k
  | d :: ds, es, _, ys, h, k => by
    simp only [TpAll] at h
    obtain ⟨x, r, h1, h2, h3⟩ := h
    subst h1
    simp only [List.cons_append, TpAll]
    exact ⟨x, _, rfl, h2, TpAll.append h3 k⟩
theorem TpAll.one {H : Hp} {d : PyData} {v : V} (h : Tp H d v) : TpAll H [d] [v] := by
  simp only [TpAll]
  exact ⟨v, [], rfl, h, rfl⟩
theorem TpAll.cons {H : Hp} {d : PyData} {v : V} {ds : List PyData} {vs : List V} (h : Tp H d v) (t : TpAll H ds vs) : TpAll H (d :: ds) (v :: vs) := by
  simp only [TpAll]
  exact ⟨v, vs, rfl, h, t⟩
theorem TpAll.nil {H : Hp} : TpAll H [] [] := by simp only [TpAll]
theorem Tp.tup {H : Hp} {a : Addr} {xs : List V} {ds : List PyData} (h : H a = some (.tup xs)) (t : TpAll H ds xs) : Tp H (.tuple ds) (.ref a) := by
  simp only [Tp]
  exact ⟨a, xs, rfl, h, t⟩
theorem Tp.out {H : Hp} {ds : List PyData} {v : V} (h : Tp H (.tuple ds) v) : ∃ a xs, v = .ref a ∧ H a = some (.tup xs) ∧ TpAll H ds xs := by
  simpa only [Tp] using h
theorem Tp.int {H : Hp} {i : Int} : Tp H (.int i) (.int i) := by simp only [Tp]
theorem Tp.str {H : Hp} {x : Str} : Tp H (.str x) (.str x) := by simp only [Tp]
theorem Tp.non {H : Hp} : Tp H .none .non := by simp only [Tp]
theorem Tp.bl {H : Hp} {b : Bool} : Tp H (.bool b) (.bl b) := by simp only [Tp]
theorem Tp.int_of {H : Hp} {i : Int} {v : V} (h : Tp H (.int i) v) : v = .int i := by simpa only [Tp] using h
theorem Tp.str_of {H : Hp} {x : Str} {v : V} (h : Tp H (.str x) v) : v = .str x := by simpa only [Tp] using h
theorem Tp.none_iff {H : Hp} : ∀ {d : PyData} {v : V}, Tp H d v → (v = .non ↔ d = .none)
  | .none, _, h => by simp only [Tp] at h; subst h; simp
  | .bool b, _, h => by simp only [Tp] at h; subst h; simp
  | .int i, _, h => by simp only [Tp] at h; subst h; simp
  | .str x, _, h => by simp only [Tp] at h; subst h; simp
  | .tuple ds, _, h => by
    obtain ⟨a, xs, h1, _⟩ := h.out
    subst h1
    simp
  | .list _, _, h => by simp only [Tp] at h
  | .dict _, _, h => by simp only [Tp] at h
/-! ### slots that hold data -/
abbrev DE := List (Option PyData)
def SlD (H : Hp) : DE → St → Prop
  | [], _ => True
  | none :: δ, σ => SlD H δ σ.tail
  | some d :: δ, σ => (∃ v, σ.head? = some (some v) ∧ Tp H d v) ∧ SlD H δ σ.tail
theorem SlD.get {H : Hp} : ∀ {δ : DE} {σ : St} {i : Nat} {d : PyData}, SlD H δ σ → δ[i]? = some (some d) → ∃ v, σ[i]? = some (some v) ∧ Tp H d v
  | [], _, _, _, _, e => by simp at e
  | none :: δ, σ, 0, _, _, e => by simp at e
  | some d :: δ, σ, 0, _, h, e => by
    simp only [List.getElem?_cons_zero, Option.some.injEq] at e
    subst e
    obtain ⟨⟨v, h1, h2⟩, _⟩ := h
    exact ⟨v, by rw [← List.head?_eq_getElem?]; exact h1, h2⟩
  | x :: δ, σ, i + 1, d, h, e => by
    have h' : SlD H δ σ.tail := by
      cases x with
      | none => exact h
      | some y => exact h.2
    obtain ⟨v, e1, e2⟩ := SlD.get (i := i) h' (by simpa using e)
    refine ⟨v, ?_, e2⟩
    rw [List.getElem?_tail] at e1
    exact e1
theorem SlD.mono {H H' : Hp} (s : Tups H H') : ∀ {δ : DE} {σ : St}, SlD H δ σ → SlD H' δ σ
  | [], _, _ => trivial
  | none :: δ, σ, h => SlD.mono (δ := δ) s h
  | some d :: δ, σ, ⟨⟨v, h1, h2⟩, h⟩ => ⟨⟨v, h1, h2.mono s⟩, SlD.mono (δ := δ) s h⟩
/-- an expression whose value is data, reckoned from the slots' data -/
abbrev DX := DE → Option PyData
def tD (x : DX) : TE := fun σ H Q => ∃ δ d, SlD H δ σ ∧ x δ = some d ∧ ∀ v H', L2.Same H H' → Tp H' d v → Q v H'
def tDs (x : DE → Option (List PyData)) : TA := fun σ H Q => ∃ δ ds, SlD H δ σ ∧ x δ = some ds ∧ ∀ vs H', L2.Same H H' → TpAll H' ds vs → Q vs H'
/-- .. one that makes nothing new -/
def tR (x : DX) : TE := fun σ H Q => ∃ δ d, SlD H δ σ ∧ x δ = some d ∧ ∀ v, Tp H d v → Q v H
/-- a weaker reading -/
theorem PE.imp {X : Cx} {e : Expr} {t t' : TE} (h : PE X e t) (k : ∀ σ H Q, t' σ H Q → t σ H Q) : PE X e t' := ⟨fun pins s σ H Q I q => h.run pins s σ H Q I (k σ H Q q)⟩
theorem PT.imp {X : Cx} {e : Expr} {t t' : TT} (h : PT X e t) (k : ∀ σ H Q, t' σ H Q → t σ H Q) : PT X e t' := ⟨fun pins s σ H Q I q => h.run pins s σ H Q I (k σ H Q q)⟩
theorem PS.imp {X : Cx} {st : Stmt} {t t' : TS} (h : PS X st t) (k : ∀ D σ H, t' D σ H → t D σ H) : PS X st t' := ⟨fun pins s σ H D I q => h.run pins s σ H D I (k D σ H q)⟩
section
variable {X : Cx} {e : Expr} {es : List Expr} {pos : Pos} {x : DX} {xs : DE → Option (List PyData)}
def dVar (i : Nat) : DX := fun δ => (δ[i]?).join
def dC (d : PyData) : DX := fun _ => some d
def dIx (x : DX) (j : Nat) : DX := fun δ => (x δ).bind fun d => match d with
  | .tuple ds => ds[j]?
  | _ => none
def dTup (xs : DE → Option (List PyData)) : DX := fun δ => (xs δ).bind fun ds => if ds.length ≤ 1000 then some (.tuple ds) else none
def dNil : DE → Option (List PyData) := fun _ => some []
def dCons (x : DX) (xs : DE → Option (List PyData)) : DE → Option (List PyData) := fun δ => (x δ).bind fun d => (xs δ).map fun ds => d :: ds
theorem pd_of (h : PE X e (tR x)) : PE X e (tD x) := PE.imp h fun σ H Q q => by
  obtain ⟨δ, d, S, e1, k⟩ := q
  exact ⟨δ, d, S, e1, fun v t => k v H (L2.Same.refl H) t⟩
theorem pr_var (i : Nat) {y : Str} (hN : X.N[i]? = some y := by rfl) (hv : Vis X.env.scope y := by first | exact Or.inl rfl | exact Or.inr (Or.inl rfl) | exact Or.inr (Or.inr rfl)) (hd : (y == ("__debug__" : Str)) = false := by decide)
    (hcd : (y == ("__classdict__" : Str)) = false := by decide) : PE X (.Name y pos) (tR (dVar i)) :=
  PE.imp (pe_var hN hv hd hcd) fun σ H Q h => by
    obtain ⟨δ, d, S, e1, k⟩ := h
    have e2 : δ[i]? = some (some d) := by
      unfold dVar at e1
      cases q : δ[i]? with
      | none => rw [q] at e1; cases e1
      | some z =>
        rw [q] at e1
        rw [show z = some d from e1]
    obtain ⟨v, e3, t⟩ := S.get e2
    exact ⟨v, e3, k v t⟩
theorem pr_c {d : PyData} {v : V} (h : PE X e (tC v)) (t : ∀ H, Tp H d v) : PE X e (tR (dC d)) :=
  PE.imp h fun σ H Q q => by
    obtain ⟨δ, d', S, e1, k⟩ := q
    cases e1
    exact k v (t H)
theorem pr_int {i : Int} {j : Nat} : PE X (.Constant (.int i) j pos) (tR (dC (.int i))) := pr_c pe_int fun _ => Tp.int
theorem pr_str {y : Str} {j : Nat} : PE X (.Constant (.str y) j pos) (tR (dC (.str y))) := pr_c pe_str fun _ => Tp.str
theorem pr_non {j : Nat} : PE X (.Constant .none j pos) (tR (dC .none)) := pr_c pe_non fun _ => Tp.non
theorem pr_bl {b : Bool} {j : Nat} : PE X (.Constant (.bool b) j pos) (tR (dC (.bool b))) := pr_c pe_bl fun _ => Tp.bl
theorem pr_ix {i : Int} {j : Nat} {p1 : Pos} (he : PE X e (tR x)) (h0 : 0 ≤ i := by decide) (hs : PlainIx (.Constant (.int i) j p1) := by exact fun _ _ => rfl) : PE X (.Subscript e (.Constant (.int i) j p1) pos) (tR (dIx x i.toNat)) :=
  PE.imp (pe_ix ix_tup he pe_int hs) fun σ H Q h => by
    obtain ⟨δ, d, S, e1, k⟩ := h
    unfold dIx at e1
    cases q : x δ with
    | none => rw [q] at e1; cases e1
    | some z =>
      rw [q] at e1
      cases z with
      | tuple ds =>
        refine ⟨δ, .tuple ds, S, q, fun v t => ?_⟩
        obtain ⟨a, ys, rfl, h2, h3⟩ := t.out
        obtain ⟨v', e3, t'⟩ := h3.get (show ds[i.toNat]? = some d from e1)
        refine ⟨a, ys, i, v', rfl, rfl, SqT.of h2, ?_, k v' t'⟩
        have e4 : ((i.toNat : Nat) : Int) = i := Int.toNat_of_nonneg h0
        rw [← e4]
        exact atI_nat e3
      | _ => cases e1
theorem pd_var (i : Nat) {y : Str} (hN : X.N[i]? = some y := by rfl) (hv : Vis X.env.scope y := by first | exact Or.inl rfl | exact Or.inr (Or.inl rfl) | exact Or.inr (Or.inr rfl)) (hd : (y == ("__debug__" : Str)) = false := by decide)
    (hcd : (y == ("__classdict__" : Str)) = false := by decide) : PE X (.Name y pos) (tD (dVar i)) := pd_of (pr_var i hN hv hd hcd)
theorem pd_int {i : Int} {j : Nat} : PE X (.Constant (.int i) j pos) (tD (dC (.int i))) := pd_of pr_int
theorem pd_str {y : Str} {j : Nat} : PE X (.Constant (.str y) j pos) (tD (dC (.str y))) := pd_of pr_str
theorem pd_non {j : Nat} : PE X (.Constant .none j pos) (tD (dC .none)) := pd_of pr_non
theorem pd_bl {b : Bool} {j : Nat} : PE X (.Constant (.bool b) j pos) (tD (dC (.bool b))) := pd_of pr_bl
theorem pd_ix {i : Int} {j : Nat} {p1 : Pos} (he : PE X e (tR x)) (h0 : 0 ≤ i := by decide) (hs : PlainIx (.Constant (.int i) j p1) := by exact fun _ _ => rfl) : PE X (.Subscript e (.Constant (.int i) j p1) pos) (tD (dIx x i.toNat)) := pd_of (pr_ix he h0 hs)
theorem pds_nil : PA X [] (tDs dNil) := ⟨fun pos pins s σ H Q I h => by
  obtain ⟨δ, ds, S, e1, k⟩ := h
  cases e1
  exact pa_nil.run pos pins s σ H Q I (k [] H (L2.Same.refl H) TpAll.nil)⟩
theorem pds_cons (he : PE X e (tD x)) (ht : PA X es (tDs xs)) (hs : starEach (e :: es) X.env = (false, eval e X.env) :: starEach es X.env := by rfl) : PA X (e :: es) (tDs (dCons x xs)) := ⟨fun pos pins s σ H Q I h => by
  refine (pa_cons he ht hs).run pos pins s σ H Q I ?_
  obtain ⟨δ, ds, S, e1, k⟩ := h
  unfold dCons at e1
  cases q : x δ with
  | none => rw [q] at e1; cases e1
  | some d =>
    rw [q] at e1
    cases q2 : xs δ with
    | none => rw [q2] at e1; cases e1
    | some ds' =>
      rw [q2] at e1
      cases e1
      exact ⟨δ, d, S, q, fun v H1 s1 t1 => ⟨δ, ds', S.mono s1.t, q2, fun vs H2 s2 t2 => k (v :: vs) H2 (s1.trans s2) (TpAll.cons (t1.mono s2.t) t2)⟩⟩⟩
theorem same_upd {H : Hp} {p : Addr} {o : HO} (h : H p = none) : L2.Same H (upd H p o) := fun b u e => by
  rw [upd_ne (ne_of_none e h)]
  exact e
theorem pd_tup {k : Nat} (ha : PA X es (tDs xs)) : PE X (.Tuple es k pos) (tD (dTup xs)) :=
  PE.imp (pe_tup ha) fun σ H Q h => by
    obtain ⟨δ, d, S, e1, k⟩ := h
    unfold dTup at e1
    cases q : xs δ with
    | none => rw [q] at e1; cases e1
    | some ds =>
      rw [q] at e1
      by_cases hl : ds.length ≤ 1000
      · rw [show (some ds).bind _ = (if ds.length ≤ 1000 then some (PyData.tuple ds) else none) from rfl, if_pos hl] at e1
        cases e1
        refine ⟨δ, ds, S, q, fun vs H1 s1 t1 => ⟨?_, fun p hp => ?_⟩⟩
        · rw [← t1.length]
          exact Nat.le_of_lt (small1000 hl)
        · exact k _ _ (s1.trans (same_upd hp)) (Tp.tup upd_same (t1.mono (same_upd hp).t))
      · rw [show (some ds).bind _ = (if ds.length ≤ 1000 then some (PyData.tuple ds) else none) from rfl, if_neg hl] at e1
        cases e1
/-- a list of data stands at l -/
def LstD (H : Hp) (l : Addr) (ds : List PyData) : Prop := ∃ vs, H l = some (.lst vs) ∧ TpAll H ds vs
theorem LstD.mono {H H' : Hp} (s : L2.Same H H') {l : Addr} {ds : List PyData} (h : LstD H l ds) : LstD H' l ds := by
  obtain ⟨vs, h1, h2⟩ := h
  exact ⟨vs, s _ _ h1, h2.mono s.t⟩
theorem LstD.bar {S : List Addr} {H H' : Hp} (s : Bar S H H') {l : Addr} {ds : List PyData} (h : LstD H l ds) (n : l ∉ S) : LstD H' l ds := by
  obtain ⟨vs, h1, h2⟩ := h
  exact ⟨vs, s.keep _ _ h1 n, h2.mono s.t⟩
def tLD (xs : DE → Option (List PyData)) : TE := fun σ H Q => ∃ δ ds, SlD H δ σ ∧ xs δ = some ds ∧ ds.length ≤ 1000 ∧ ∀ l H', L2.Same H H' → H l = none → LstD H' l ds → Q (.ref l) H'
theorem pd_lst (ha : PA X es (tDs xs)) : PE X (.List es pos) (tLD xs) :=
  PE.imp (pe_lst ha) fun σ H Q h => by
    obtain ⟨δ, ds, S, e1, hl, k⟩ := h
    refine ⟨δ, ds, S, e1, fun vs H1 s1 t1 => ⟨?_, fun p hp => ?_⟩⟩
    · rw [← t1.length]
      exact Nat.le_of_lt (small1000 hl)
    · exact k p _ (s1.trans (same_upd hp)) (s1.free hp) ⟨vs, upd_same, t1.mono (same_upd hp).t⟩
end
end K13
/-! ## K13R2 -/
/-! More rules of our own: tests over data, cuts, the data of the law. -/
namespace K13
open PySem L2 PyProof.Rows
section
variable {X : Cx} {e e2 : Expr} {es : List Expr} {pos : Pos} {x y : DX} {xs : DE → Option (List PyData)}
/-! ### parts of a slice -/
def tOC (o : Option Int) : TO := fun _ H Q => Q o H
theorem PO.imp {o : Option Expr} {t t' : TO} (h : PO X o t) (k : ∀ σ H Q, t' σ H Q → t σ H Q) : PO X o t' := ⟨fun pins s σ H Q I q => h.run pins s σ H Q I (k σ H Q q)⟩
theorem po_c {i : Int} (h : PE X e (tC (.int i))) : PO X (some e) (tOC (some i)) := PO.imp (po_some h) fun σ H Q q => ⟨i, rfl, q⟩
theorem po_0 : PO X none (tOC none) := PO.imp po_none fun σ H Q q => q
def cutD (ds : List PyData) (lo hi : Option Int) : List PyData := (ds.drop (HT.sIx ds.length 0 lo)).take (HT.sIx ds.length ds.length hi - HT.sIx ds.length 0 lo)
def dCut (x : DX) (lo hi : Option Int) : DX := fun δ => (x δ).bind fun d => match d with
  | .tuple ds => some (.tuple (cutD ds lo hi))
  | _ => none
theorem pd_cut {a b : Option Expr} {p1 : Pos} {lo hi : Option Int} (he : PE X e (tD x)) (ha : PO X a (tOC lo)) (hb : PO X b (tOC hi)) : PE X (.Subscript e (.Slice a b none p1) pos) (tD (dCut x lo hi)) :=
  PE.imp (pe_slice sl_tupA he ha hb) fun σ H Q h => by
    obtain ⟨δ, d, S, e1, k⟩ := h
    unfold dCut at e1
    cases q : x δ with
    | none => rw [q] at e1; cases e1
    | some z =>
      rw [q] at e1
      cases z with
      | tuple ds =>
        cases e1
        refine ⟨δ, .tuple ds, S, q, fun v H' s t => ?_⟩
        obtain ⟨a, ys, rfl, h2, h3⟩ := t.out
        have hl := h3.length
        have h4 : TpAll H' (cutD ds lo hi) (cutV ys lo hi) := by
          unfold cutD cutV
          rw [hl]
          exact (h3.drop _).take _
        refine ⟨a, ys, rfl, SqT.of h2, fun hw => ?_, fun _ p hp => ?_⟩
        · refine k _ _ s (Tp.tup h2 ?_)
          have e2 : cutD ds lo hi = ds := by
            unfold cutD
            rw [hl, hw.1, hw.2, ← hl]
            simp
          rw [e2]
          exact h3
        · exact k _ _ (s.trans (same_upd hp)) (Tp.tup upd_same (h4.mono (same_upd hp).t))
      | _ => cases e1
/-! ### tests -/
def sq (neg : Bool) (a b : Str) : Bool := if neg then !decide (a = b) else decide (a = b)
def tStrEq (neg : Bool) (x y : DX) : TT := fun σ H Q => ∃ (δ : DE) (a b : Str), SlD H δ σ ∧ x δ = some (.str a) ∧ y δ = some (.str b) ∧ Q (sq neg a b) H
theorem pt_seq (hx : PE X e (tR x)) (hy : PE X e2 (tR y)) : PT X (.Compare e [.Eq] [e2] pos) (tStrEq false x y) :=
  PT.imp (pt_cmpR op_eq hx hy (nomark _)) fun σ H Q h => by
    obtain ⟨δ, a, b, S, e1, e3, k⟩ := h
    refine ⟨δ, _, S, e1, fun v t1 => ⟨δ, _, S, e3, fun u t2 => ?_⟩⟩
    rw [t1.str_of, t2.str_of]
    refine ⟨rfl, _, rfl, ?_⟩
    have e4 : decide (V.str a = V.str b) = decide (a = b) := by simp
    rw [e4]
    exact k
theorem pt_sne (hx : PE X e (tR x)) (hy : PE X e2 (tR y)) : PT X (.Compare e [.NotEq] [e2] pos) (tStrEq true x y) :=
  PT.imp (pt_cmpR op_ne hx hy (nomark _)) fun σ H Q h => by
    obtain ⟨δ, a, b, S, e1, e3, k⟩ := h
    refine ⟨δ, _, S, e1, fun v t1 => ⟨δ, _, S, e3, fun u t2 => ?_⟩⟩
    rw [t1.str_of, t2.str_of]
    refine ⟨rfl, _, rfl, ?_⟩
    have e4 : decide (V.str a = V.str b) = decide (a = b) := by simp
    rw [e4]
    exact k
/-- any data -/
def tDatEq (x y : DX) : TT := fun σ H Q => ∃ (δ : DE) (a b : PyData), SlD H δ σ ∧ x δ = some a ∧ y δ = some b ∧ SeqAt.shaped a = true ∧ SeqAt.shaped b = true ∧ ∀ H', L2.Same H H' → Q (PyData.eqv a b) H'
theorem pt_deq (hu : X.A.units + 64 < cLine) (hx : PE X e (tD x)) (hy : PE X e2 (tD y)) : PT X (.Compare e [.Eq] [e2] pos) (tDatEq x y) :=
  PT.imp (pt_cmpR (op_eqD hu) hx hy (nomark _)) fun σ H Q h => by
    obtain ⟨δ, a, b, S, e1, e3, h1, h2, k⟩ := h
    exact ⟨δ, _, S, e1, fun v H1 s1 t1 => ⟨δ, _, S.mono s1.t, e3, fun u H2 s2 t2 => ⟨a, b, (t1.mono s2.t).dp, t2.dp, h1, h2, _, rfl, k H2 (s1.trans s2)⟩⟩⟩
/-- two ints -/
def tIntC (p : Int → Int → Bool) (x y : DX) : TT := fun σ H Q => ∃ (δ : DE) (i j : Int), SlD H δ σ ∧ x δ = some (.int i) ∧ y δ = some (.int j) ∧ Q (p i j) H
theorem pt_icmp {op : CmpOp} {p : Int → Int → Bool} (ho : OpR X (compareOp op) (rI0 fun i j => .bl (p i j))) (hm : behindInMarks op e2 = false) (hx : PE X e (tR x)) (hy : PE X e2 (tR y)) : PT X (.Compare e [op] [e2] pos) (tIntC p x y) :=
  PT.imp (pt_cmpR ho hx hy hm) fun σ H Q h => by
    obtain ⟨δ, i, j, S, e1, e3, k⟩ := h
    refine ⟨δ, _, S, e1, fun v t1 => ⟨δ, _, S, e3, fun u t2 => ?_⟩⟩
    rw [t1.int_of, t2.int_of]
    exact ⟨i, j, rfl, rfl, _, rfl, k⟩
theorem op_eqI : OpR X (compareOp .Eq) (rI0 fun i j => .bl (decide (i = j))) := opB0 fun i j _ _ _ _ _ q => eq_int (by
  have e4 : (i == j) = decide (i = j) := by rw [Bool.beq_eq_decide_eq]
  rw [e4]
  exact q)
theorem op_neI : OpR X (compareOp .NotEq) (rI0 fun i j => .bl (!decide (i = j))) := opB0 fun i j _ _ _ _ _ q => ne_int (by
  have e4 : (i != j) = !decide (i = j) := by rw [bne, Bool.beq_eq_decide_eq]
  rw [e4]
  exact q)
/-- None or not -/
def isN : PyData → Bool
  | .none => true
  | _ => false
def tNonT (neg : Bool) (x : DX) : TT := fun σ H Q => ∃ δ d, SlD H δ σ ∧ x δ = some d ∧ Q (if neg then !isN d else isN d) H
theorem isN_eq {H : Hp} {d : PyData} {v : V} (t : Tp H d v) : decide (v = .non) = isN d := by
  have h := t.none_iff
  cases d with
  | none => simp [isN, h]
  | _ =>
    have : ¬ v = .non := fun q => nomatch (h.mp q)
    simp [isN, this]
theorem pt_isN {j : Nat} {p1 : Pos} (hx : PE X e (tR x)) : PT X (.Compare e [.Is] [.Constant .none j p1] pos) (tNonT false x) :=
  PT.imp (pt_cmp (pc_isN hx)) fun σ H Q h => by
    obtain ⟨δ, d, S, e1, k⟩ := h
    refine ⟨δ, d, S, e1, fun v t1 => ⟨_, rfl, ?_⟩⟩
    rw [isN_eq t1]
    exact k
theorem pt_notN {j : Nat} {p1 : Pos} (hx : PE X e (tR x)) : PT X (.Compare e [.IsNot] [.Constant .none j p1] pos) (tNonT true x) :=
  PT.imp (pt_cmp (pc_notN hx)) fun σ H Q h => by
    obtain ⟨δ, d, S, e1, k⟩ := h
    refine ⟨δ, d, S, e1, fun v t1 => ⟨_, rfl, ?_⟩⟩
    rw [isN_eq t1]
    exact k
/-- a bool's own truth -/
def tBoolT (x : DX) : TT := fun σ H Q => ∃ (δ : DE) (b : Bool), SlD H δ σ ∧ x δ = some (.bool b) ∧ Q b H
theorem pt_bool (hx : PE X e (tR x)) (he : ∀ whole, isTrue e X.env whole = (do let v ← whole; standAt e.pos; holding [v] (truthy v)) := by intro _; rfl) : PT X e (tBoolT x) :=
  PT.imp (pt_val hx he) fun σ H Q h => by
    obtain ⟨δ, b, S, e1, k⟩ := h
    refine ⟨δ, _, S, e1, fun v t1 => ?_⟩
    have : v = .bl b := by simpa only [Tp] using t1
    exact ⟨b, this, k⟩
/-- a text among written texts -/
def tStrIn (neg : Bool) (x : DX) (xs : DE → Option (List PyData)) : TT := fun σ H Q => ∃ (δ : DE) (a : Str) (bs : List Str), SlD H δ σ ∧ x δ = some (.str a) ∧ xs δ = some (bs.map PyData.str) ∧ bs.length ≤ 1000 ∧ ∀ H', L2.Same H H' → Q (if neg then !(bs.contains a) else bs.contains a) H'
theorem tpAll_strs {H : Hp} : ∀ {bs : List Str} {vs : List V}, TpAll H (bs.map PyData.str) vs → vs = bs.map V.str
  | [], _, h => by simpa only [List.map_nil, TpAll] using h
  | b :: bs, _, h => by
    simp only [List.map_cons, TpAll, Tp] at h ⊢
    obtain ⟨x, r, h1, h2, h3⟩ := h
    rw [h1, h2, tpAll_strs h3]
theorem inV_strs (a : Str) (bs : List Str) : inV (.str a) (bs.map V.str) = bs.contains a := by
  unfold inV
  induction bs with
  | nil => rfl
  | cons b bs ih =>
    rw [List.map_cons, List.any_cons, List.contains_cons, ih]
    congr 1
    show eqV (.str b) (.str a) = (a == b)
    unfold eqV
    rw [Bool.eq_iff_iff]
    simp
    exact ⟨fun h => h.symm, fun h => h.symm⟩
theorem flat_strs (bs : List Str) : (bs.map V.str).all flatV = true := by
  rw [List.all_eq_true]
  intro v hv
  obtain ⟨b, _, rfl⟩ := List.mem_map.mp hv
  rfl
theorem pt_sin {k : Nat} {p1 : Pos} (hx : PE X e (tR x)) (ha : PA X es (tDs xs)) (hm : behindInMarks .In (.Tuple es k p1) = false) : PT X (.Compare e [.In] [.Tuple es k p1] pos) (tStrIn false x xs) :=
  PT.imp (pt_cmpR op_in_seq hx (pe_tup ha) hm) fun σ H Q h => by
    obtain ⟨δ, a, bs, S, e1, e3, hl, q⟩ := h
    refine ⟨δ, _, S, e1, fun v t1 => ⟨δ, _, S, e3, fun vs H2 s2 t2 => ⟨?_, fun p hp => ?_⟩⟩⟩
    · rw [← t2.length, List.length_map]
      exact Nat.le_of_lt (small1000 hl)
    · rw [t1.str_of, tpAll_strs t2]
      refine ⟨p, bs.map V.str, rfl, .inr (SqT.of upd_same), rfl, flat_strs bs, _, rfl, ?_⟩
      rw [inV_strs]
      exact q _ (s2.trans (same_upd hp))
theorem pt_snin {k : Nat} {p1 : Pos} (hx : PE X e (tR x)) (ha : PA X es (tDs xs)) (hm : behindInMarks .NotIn (.Tuple es k p1) = false) : PT X (.Compare e [.NotIn] [.Tuple es k p1] pos) (tStrIn true x xs) :=
  PT.imp (pt_cmpR op_notIn_seq hx (pe_tup ha) hm) fun σ H Q h => by
    obtain ⟨δ, a, bs, S, e1, e3, hl, q⟩ := h
    refine ⟨δ, _, S, e1, fun v t1 => ⟨δ, _, S, e3, fun vs H2 s2 t2 => ⟨?_, fun p hp => ?_⟩⟩⟩
    · rw [← t2.length, List.length_map]
      exact Nat.le_of_lt (small1000 hl)
    · rw [t1.str_of, tpAll_strs t2]
      refine ⟨p, bs.map V.str, rfl, .inr (SqT.of upd_same), rfl, flat_strs bs, _, rfl, ?_⟩
      rw [inV_strs]
      exact q _ (s2.trans (same_upd hp))
/-- a written tuple of texts of the module (HOST_TOPICS) -/
def tStrInK (neg : Bool) (x : DX) (bs : List Str) : TT := fun σ H Q => ∃ δ a, SlD H δ σ ∧ x δ = some (.str a) ∧ Q (if neg then !(bs.contains a) else bs.contains a) H
theorem pt_sinK {bs : List Str} {a : Addr} (hx : PE X e (tR x)) (hy : PE X e2 (tC (.ref a))) (hq : ∀ H, SqT X.K H a (bs.map V.str)) (hm : behindInMarks .In e2 = false) : PT X (.Compare e [.In] [e2] pos) (tStrInK false x bs) :=
  PT.imp (pt_cmpR op_in_seq hx hy hm) fun σ H Q h => by
    obtain ⟨δ, z, S, e1, q⟩ := h
    refine ⟨δ, _, S, e1, fun v t1 => ?_⟩
    rw [t1.str_of]
    refine ⟨a, bs.map V.str, rfl, .inr (hq H), rfl, flat_strs bs, _, rfl, ?_⟩
    rw [inV_strs]
    exact q
theorem pt_sninK {bs : List Str} {a : Addr} (hx : PE X e (tR x)) (hy : PE X e2 (tC (.ref a))) (hq : ∀ H, SqT X.K H a (bs.map V.str)) (hm : behindInMarks .NotIn e2 = false) : PT X (.Compare e [.NotIn] [e2] pos) (tStrInK true x bs) :=
  PT.imp (pt_cmpR op_notIn_seq hx hy hm) fun σ H Q h => by
    obtain ⟨δ, z, S, e1, q⟩ := h
    refine ⟨δ, _, S, e1, fun v t1 => ?_⟩
    rw [t1.str_of]
    refine ⟨a, bs.map V.str, rfl, .inr (hq H), rfl, flat_strs bs, _, rfl, ?_⟩
    rw [inV_strs]
    exact q
/-- a, b = data -/
theorem ps_unp {tg : Expr} {n : Nat} {g : TGs} (he : PE X e (tD x)) (hg : PG X tg (gTup X.K n g)) (hs : swapsWithSole [tg] e pos.line X.env = pure false := by rfl) (hw : swappedStores [tg] e X.env = pure none := by rfl)
    (h1 : (assignEach [tg] X.env).map (·.2) = [assign tg X.env] := by rfl) : PS X (.Assign [tg] e pos) (fun D σ H => ∃ (δ : DE) (ds : List PyData), SlD H δ σ ∧ x δ = some (.tuple ds) ∧ ds.length = n ∧ ∀ vs H', L2.Same H H' → TpAll H' ds vs → g vs σ H' D.nx) :=
  PS.imp (ps_asg he hg hs hw h1) fun D σ H h => by
    obtain ⟨δ, ds, S, e1, hl, k⟩ := h
    refine ⟨δ, _, S, e1, fun v H1 s1 t1 => ?_⟩
    obtain ⟨a, ys, rfl, h2, h3⟩ := t1.out
    exact ⟨a, ys, rfl, SqT.of h2, by rw [← h3.length, hl], k ys H1 s1 h3⟩
/-- found.append(data), found a local list of data -/
def tAppD (i : Nat) (x : DX) : TS := fun D σ H => ∃ (l : Addr) (ds : List PyData) (δ : DE) (d : PyData), σ[i]? = some (some (.ref l)) ∧ LstD H l ds ∧ ds.length < sizeLine ∧ SlD H δ σ ∧ x δ = some d ∧
  ∀ H', Bar [l] H H' → LstD H' l (ds ++ [d]) → D.nx σ H'
theorem ps_appD {i : Nat} {o : Expr} {apos cpos : Pos} (ho : PE X o (tVar i)) (he : PE X e (tD x)) (hb : PE X (.Call (.Attribute o "append" apos) [e] [] cpos) (tBM X.K "list" rAppend (tVar i) (tDs (dCons x dNil))))
    (hs : swapsWith (.Call (.Attribute o "append" apos) [e] [] cpos) none pos.line X.env = pure false := by rfl) : PS X (.Expr (.Call (.Attribute o "append" apos) [e] [] cpos) pos) (tAppD i x) :=
  PS.imp (ps_expr hb hs) fun D σ H h => by
    obtain ⟨l, ds, δ, d, e1, ⟨vs, h1, h2⟩, hl, S, e2, k⟩ := h
    refine ⟨_, e1, .inl ⟨rfl, _, .inl (.inl h1)⟩, δ, [d], S, ?_, fun us H3 s3 t3 => ?_⟩
    · unfold dCons dNil
      rw [e2]
      rfl
    · have t4 : ∃ u r, us = u :: r ∧ Tp H3 d u ∧ r = [] := by simpa only [TpAll] using t3
      obtain ⟨u, _, rfl, t5, rfl⟩ := t4
      have h3 := s3 _ _ h1
      refine ⟨l, vs, u, rfl, rfl, h3, ?_, ?_⟩
      · rw [← h2.length]
        exact hl
      · have b : Bar [l] H3 (upd H3 l (.lst (vs ++ [u]))) := Bar.lst h3
        exact k _ ((s3.bar _).trans b) ⟨_, upd_same, (h2.mono (s3.t.trans b.t)).append (TpAll.one (t5.mono b.t))⟩
theorem iteT' {c : Bool} {A B : Prop} (hc : c = true) (h : A) : if c = true then A else B := by rw [if_pos hc]; exact h
theorem iteF' {c : Bool} {A B : Prop} (hc : c = false) (h : B) : if c = true then A else B := by rw [hc]; exact iteF h
end
/-! ### the data of the law -/
def kname : Kd → Str
  | .mark _ => "mark" | .make _ _ => "make" | .remove _ => "remove" | .write _ _ _ => "write" | .trim _ _ => "trim" | .snap _ => "snap" | .drop _ _ => "drop"
  | .register _ => "register" | .leave _ _ => "leave" | .reserve _ _ => "reserve" | .release _ => "release" | .preempt _ _ _ => "preempt"
def wayS (b : Bool) : Str := if b then "write" else "alone"
def vlD : Vl → PyData
  | .non => .none
  | .num i => .int i
  | .ans s c a => .tuple [.int s, .int c, match a with | none => .none | some none => .tuple [.str "ok", .none] | some (some k) => .tuple [.str "ok", .int k]]
  | .tld k => .tuple [.int 3, .int k, .tuple [.str "ok", .none]]
  | .way h w => .tuple [.int h, .str (wayS w)]
def fldD : Kd → List PyData
  | .mark t => [vlD (toldV t)]
  | .make n s => [.int n, .int s]
  | .remove n => [.int n]
  | .write n p v => [.int n, .int p, .int v]
  | .trim n p => [.int n, .int p]
  | .snap n => [.int n]
  | .drop n o => [.int n, .int o]
  | .register n => [.int n]
  | .leave n held => [.int n, .bool held]
  | .reserve n w => [.int n, .str (wayS w)]
  | .release n => [.int n]
  | .preempt n v w => [.int n, .int v, match w with | none => .none | some w => .str (wayS w)]
def recD (r : Rec) : PyData := .tuple (.int r.ord :: .str (kname r.kd) :: .int r.host :: .int r.ses :: .int r.cnt :: fldD r.kd)
def topK : Topic → List L2.Key
  | .host h => [.inr "host", .inl h]
  | .told h => [.inr "told", .inl h]
  | .space n => [.inr "space", .inl n]
  | .gone n => [.inr "gone", .inl n]
  | .place n p => [.inr "place", .inl n, .inl p]
  | .snap n o => [.inr "snap", .inl n, .inl o]
  | .key n h => [.inr "key", .inl n, .inl h]
  | .hold n => [.inr "hold", .inl n]
def keyD : L2.Key → PyData
  | .inl i => .int i
  | .inr s => .str s
def topD (t : Topic) : PyData := .tuple ((topK t).map keyD)
def effD (e : Topic × Vl) : PyData := .tuple [topD e.1, vlD e.2]
def ansD (r : Rec) : PyData :=
  match ansOf r with
  | none => .none
  | some none => .tuple [.str "ok", .none]
  | some (some k) => .tuple [.str "ok", .int k]
theorem tpAll_keys {H : Hp} : ∀ {k : List L2.Key} {xs : List V}, TpAll H (k.map keyD) xs ↔ xs = k.map kV
  | [], xs => by simp only [List.map_nil, TpAll]
  | .inl i :: k, xs => by
    simp only [List.map_cons, TpAll, keyD, Tp, tpAll_keys (k := k), kV]
    constructor
    · rintro ⟨x, r, h1, h2, h3⟩
      rw [h1, h2, h3]
    · intro h
      exact ⟨_, _, h, rfl, rfl⟩
  | .inr s :: k, xs => by
    simp only [List.map_cons, TpAll, keyD, Tp, tpAll_keys (k := k), kV]
    constructor
    · rintro ⟨x, r, h1, h2, h3⟩
      rw [h1, h2, h3]
    · intro h
      exact ⟨_, _, h, rfl, rfl⟩
theorem tp_top {H : Hp} {t : Topic} {v : V} : Tp H (topD t) v ↔ ∃ b, v = .ref b ∧ H b = some (.tup ((topK t).map kV)) := by
  unfold topD
  constructor
  · intro h
    obtain ⟨a, xs, h1, h2, h3⟩ := h.out
    rw [tpAll_keys] at h3
    rw [h3] at h2
    exact ⟨a, h1, h2⟩
  · rintro ⟨b, rfl, h⟩
    exact Tp.tup h (tpAll_keys.mpr rfl)
end K13
/-! ## K13A -/
/-! The records' own defs. -/
open L2 K13 in
local macro_rules | `(tactic| walk_at "kT") => `(tactic| refine iteT' (by dsimp only [kname]; decide +kernel) ?_)
open L2 K13 in
local macro_rules | `(tactic| walk_at "kF") => `(tactic| refine iteF' (by dsimp only [kname]; decide +kernel) ?_)
namespace K13
open PySem L2
def top (i : Nat) : Stmt := PySem.Challenge.pw_spindlegate_k13_whole_dead_records_can_b.main.body.getD i (.Pass ⟨0, 0, 0, 0⟩)
abbrev sAns : Stmt := top 6
abbrev sSpace : Stmt := top 7
abbrev sFence : Stmt := top 8
abbrev sEff : Stmt := top 9
def Kd.isSpace : Kd → Bool
  | .make _ _ => true | .remove _ => true | .write _ _ _ => true | .trim _ _ => true | .snap _ => true | .drop _ _ => true | _ => false
def Kd.isFence : Kd → Bool
  | .register _ => true | .leave _ _ => true | .reserve _ _ => true | .release _ => true | .preempt _ _ _ => true | _ => false
def spAns : Sp := fun vs H Q _ => ∃ r v, vs = [v] ∧ Tp H (recD r) v ∧ ∀ v' H', L2.Same H H' → Tp H' (ansD r) v' → Q v' H'
def spEffs (c : Rec → Bool) (g : Rec → List (Topic × Vl)) : Sp := fun vs H Q _ => ∃ r v, vs = [v] ∧ Tp H (recD r) v ∧ c r = true ∧ ∀ l H', L2.Same H H' → H l = none → LstD H' l ((g r).map effD) → Q (.ref l) H'
theorem ble1 {n : Nat} (h : n.ble 1000 = true) : n ≤ 1000 := Nat.le_of_ble_eq_true h
section
variable {P : Program} {w : World} {K : PySem.W.Frag} {mg : Str → Option Value} {base : Heap}
theorem scAns : FnScope ["record"] ["record"] (defScope sAns) := ⟨rfl, rfl, rfl, by decide +kernel, rfl, by decide +kernel, by decide +kernel⟩
theorem ok_ans {f : Addr} {fd : FuncData} (F : Fun K "answer_of" "answer_of" sAns f fd) : FnOk P w K mg base CX0 1 f fd ["record"] spAns := by
  refine F.ok scAns (fun vs H Q E h => ?_) (fun cdv A outer s H vs Q E hr h => ?_)
  · obtain ⟨r, v, rfl, _⟩ := h
    rfl
  · obtain ⟨r, v, rfl, t, k⟩ := h
    refine ⟨_, pss_cons (ps_if (pt_seq (pr_ix (pr_var 0)) pr_str) (pss_one (ps_ret pd_non)) pss_nil)
      (pss_cons (ps_if (pw_or (pt_seq (pr_ix (pr_var 0)) pr_str) (pw_or1 (pt_seq (pr_ix (pr_var 0)) pr_str))).pt (pss_one (ps_ret (pd_tup (pds_cons pd_str (pds_cons (pd_ix (pr_var 0)) pds_nil))))) pss_nil)
      (pss_one (ps_ret (pd_tup (pds_cons pd_str (pds_cons pd_non pds_nil)))))), ?_⟩
    have S : SlD H [some (recD r)] [some v] := ⟨⟨v, rfl, t⟩, trivial⟩
    obtain ⟨o, kd, h, se, c⟩ := r
    refine ⟨_, _, _, S, rfl, rfl, ?_⟩
    cases kd
    case mark tt =>
      walk_at "kT"
      exact ⟨_, _, S, rfl, fun v' H2 s2 t2 => k v' H2 s2 t2⟩
    all_goals
      walk_at "kF"
      refine ⟨_, _, _, S, rfl, rfl, ?_⟩
    case snap n =>
      walk_at "kT"
      refine iteT ?_
      exact ⟨_, _, S, rfl, fun v' H3 s3 t3 => k v' H3 s3 t3⟩
    all_goals
      walk_at "kF"
      refine ⟨_, _, _, S, rfl, rfl, ?_⟩
      first | walk_at "kT" | walk_at "kF"
      exact ⟨_, _, S, rfl, fun v' H4 s4 t4 => k v' H4 s4 t4⟩
theorem scSpace : FnScope ["record", "order", "kind", "namespace"] ["record"] (defScope sSpace) := ⟨rfl, rfl, rfl, by decide +kernel, rfl, by decide +kernel, by decide +kernel⟩
theorem ok_space {f : Addr} {fd : FuncData} (F : Fun K "space_effects" "space_effects" sSpace f fd) : FnOk P w K mg base CX0 1 f fd ["record"] (spEffs (fun r => r.kd.isSpace) effL) := by
  refine F.ok scSpace (fun vs H Q E h => ?_) (fun cdv A outer s H vs Q E hr h => ?_)
  · obtain ⟨r, v, rfl, _⟩ := h
    rfl
  · obtain ⟨r, v, rfl, t, hc, k⟩ := h
    have nd := scSpace.nd
    refine ⟨_, pss_cons (ps_unp (pd_cut (pd_var 0) po_0 (po_c pe_int)) (pg_tup rfl (pgs_cons (pg_name (i := 1) nd rfl (.inl rfl)) (pgs_cons (pg_name (i := 2) nd rfl (.inl rfl)) pgs_nil))))
      (pss_cons (ps_set (i := 3) nd rfl (.inl rfl) (pr_ix (pr_var 0)))
      (pss_cons (ps_if (pt_seq (pr_var 2) pr_str) (pss_one (ps_ret (pd_lst (pds_cons (pd_tup (pds_cons (pd_tup (pds_cons pd_str (pds_cons (pd_var 3) pds_nil))) (pds_cons (pd_ix (pr_var 0)) pds_nil))) pds_nil)))) pss_nil)
      (pss_cons (ps_if (pt_seq (pr_var 2) pr_str) (pss_one (ps_ret (pd_lst (pds_cons (pd_tup (pds_cons (pd_tup (pds_cons pd_str (pds_cons (pd_var 3) pds_nil))) (pds_cons (pd_var 1) pds_nil))) pds_nil)))) pss_nil)
      (pss_cons (ps_if (pt_seq (pr_var 2) pr_str) (pss_one (ps_ret (pd_lst (pds_cons (pd_tup (pds_cons (pd_tup (pds_cons pd_str (pds_cons (pd_var 3) (pds_cons (pd_ix (pr_var 0)) pds_nil)))) (pds_cons (pd_ix (pr_var 0)) pds_nil))) pds_nil)))) pss_nil)
      (pss_cons (ps_if (pt_seq (pr_var 2) pr_str) (pss_one (ps_ret (pd_lst (pds_cons (pd_tup (pds_cons (pd_tup (pds_cons pd_str (pds_cons (pd_var 3) (pds_cons (pd_ix (pr_var 0)) pds_nil)))) (pds_cons pd_non pds_nil))) pds_nil)))) pss_nil)
      (pss_cons (ps_if (pt_seq (pr_var 2) pr_str) (pss_one (ps_ret (pd_lst (pds_cons (pd_tup (pds_cons (pd_tup (pds_cons pd_str (pds_cons (pd_var 3) (pds_cons (pd_var 1) pds_nil)))) (pds_cons (pd_var 1) pds_nil))) pds_nil)))) pss_nil)
      (pss_one (ps_ret (pd_lst (pds_cons (pd_tup (pds_cons (pd_tup (pds_cons pd_str (pds_cons (pd_var 3) (pds_cons (pd_ix (pr_var 0)) pds_nil)))) (pds_cons pd_non pds_nil))) pds_nil)))))))))), ?_⟩
    obtain ⟨o, kd, h, se, c⟩ := r
    have S : SlD H [some (recD ⟨o, kd, h, se, c⟩)] [some v, none, none, none] := ⟨⟨v, rfl, t⟩, trivial⟩
    refine ⟨_, [.int o, .str (kname kd)], S, rfl, rfl, fun vs1 H1 s1 t1 => ?_⟩
    simp only [TpAll, Tp] at t1
    obtain ⟨_, _, rfl, rfl, _, _, rfl, rfl, rfl⟩ := t1
    refine ⟨_, _, rfl, _, _, rfl, rfl, ?_⟩
    have S1 : SlD H1 [some (recD ⟨o, kd, h, se, c⟩)] [some v, some (.int o), some (.str (kname kd)), none] := ⟨⟨v, rfl, t.mono s1.t⟩, trivial⟩
    have fin : ∀ (n : Int), SlD H1 [some (recD ⟨o, kd, h, se, c⟩), some (.int o), some (.str (kname kd)), some (.int n)] [some v, some (.int o), some (.str (kname kd)), some (.int n)] := fun n =>
      ⟨⟨v, rfl, t.mono s1.t⟩, ⟨_, rfl, Tp.int⟩, ⟨_, rfl, Tp.str⟩, ⟨_, rfl, Tp.int⟩, trivial⟩
    have k' : ∀ l H', L2.Same H1 H' → H1 l = none → LstD H' l ((effL ⟨o, kd, h, se, c⟩).map effD) → Q (.ref l) H' := fun l H' s2 hl tl => k l H' (s1.trans s2) (s1.free hl) tl
    cases kd
    case mark | register | leave | reserve | release | preempt => cases hc
    all_goals
      refine ⟨_, _, S1, rfl, fun v2 t2 => ?_⟩
      rw [t2.int_of]
      refine ⟨_, _, _, fin _, rfl, rfl, ?_⟩
    case make n z =>
      walk_at "kT"
      exact ⟨_, _, fin _, rfl, ble1 rfl, k'⟩
    all_goals
      walk_at "kF"
      refine ⟨_, _, _, fin _, rfl, rfl, ?_⟩
    case remove n =>
      walk_at "kT"
      exact ⟨_, _, fin _, rfl, ble1 rfl, k'⟩
    all_goals
      walk_at "kF"
      refine ⟨_, _, _, fin _, rfl, rfl, ?_⟩
    case write n p z =>
      walk_at "kT"
      exact ⟨_, _, fin _, rfl, ble1 rfl, k'⟩
    all_goals
      walk_at "kF"
      refine ⟨_, _, _, fin _, rfl, rfl, ?_⟩
    case trim n p =>
      walk_at "kT"
      exact ⟨_, _, fin _, rfl, ble1 rfl, k'⟩
    all_goals
      walk_at "kF"
      refine ⟨_, _, _, fin _, rfl, rfl, ?_⟩
      first | walk_at "kT" | walk_at "kF"
      exact ⟨_, _, fin _, rfl, ble1 rfl, k'⟩
theorem scFence : FnScope ["record", "order", "kind", "host", "namespace", "found"] ["record"] (defScope sFence) := ⟨rfl, rfl, rfl, by decide +kernel, rfl, by decide +kernel, by decide +kernel⟩
theorem ok_fence {f : Addr} {fd : FuncData} (F : Fun K "fence_effects" "fence_effects" sFence f fd) : FnOk P w K mg base CX0 1 f fd ["record"] (spEffs (fun r => r.kd.isFence) effL) := by
  refine F.ok scFence (fun vs H Q E h => ?_) (fun cdv A outer s H vs Q E hr h => ?_)
  · obtain ⟨r, v, rfl, _⟩ := h
    rfl
  · obtain ⟨r, v, rfl, t, hc, k⟩ := h
    have nd := scFence.nd
    refine ⟨_, pss_cons (ps_unp (pd_cut (pd_var 0) po_0 (po_c pe_int)) (pg_tup rfl (pgs_cons (pg_name (i := 1) nd rfl (.inl rfl)) (pgs_cons (pg_name (i := 2) nd rfl (.inl rfl)) (pgs_cons (pg_name (i := 3) nd rfl (.inl rfl)) pgs_nil)))))
      (pss_cons (ps_set (i := 4) nd rfl (.inl rfl) (pr_ix (pr_var 0)))
      (pss_cons (ps_if (pt_seq (pr_var 2) pr_str) (pss_one (ps_ret (pd_lst (pds_cons (pd_tup (pds_cons (pd_tup (pds_cons pd_str (pds_cons (pd_var 4) (pds_cons (pd_var 3) pds_nil)))) (pds_cons (pd_var 1) pds_nil))) pds_nil)))) pss_nil)
      (pss_cons (ps_if (pt_seq (pr_var 2) pr_str) (pss_one (ps_ret (pd_lst (pds_cons (pd_tup (pds_cons (pd_tup (pds_cons pd_str (pds_cons (pd_var 4) pds_nil))) (pds_cons (pd_tup (pds_cons (pd_var 3) (pds_cons (pd_ix (pr_var 0)) pds_nil))) pds_nil))) pds_nil)))) pss_nil)
      (pss_cons (ps_if (pt_seq (pr_var 2) pr_str) (pss_one (ps_ret (pd_lst (pds_cons (pd_tup (pds_cons (pd_tup (pds_cons pd_str (pds_cons (pd_var 4) pds_nil))) (pds_cons pd_non pds_nil))) pds_nil)))) pss_nil)
      (pss_cons (ps_if (pt_seq (pr_var 2) pr_str)
        (pss_cons (ps_set (i := 5) nd rfl (.inl rfl) (pd_lst (pds_cons (pd_tup (pds_cons (pd_tup (pds_cons pd_str (pds_cons (pd_var 4) (pds_cons (pd_var 3) pds_nil)))) (pds_cons pd_non pds_nil))) pds_nil)))
        (pss_cons (ps_if (pt_bool (pr_ix (pr_var 0))) (pss_one (ps_appD (pv 5) (pd_tup (pds_cons (pd_tup (pds_cons pd_str (pds_cons (pd_var 4) pds_nil))) (pds_cons pd_non pds_nil))) (pe_bm PySem.F.plainAttrs_list PySem.F.slot_list_append PySem.F.type_list_append mt_append (pv 5) (pds_cons (pd_tup (pds_cons (pd_tup (pds_cons pd_str (pds_cons (pd_var 4) pds_nil))) (pds_cons pd_non pds_nil))) pds_nil)))) pss_nil)
        (pss_one (ps_ret (pv 5))))) pss_nil)
      (pss_cons (ps_set (i := 5) nd rfl (.inl rfl) (pd_lst (pds_cons (pd_tup (pds_cons (pd_tup (pds_cons pd_str (pds_cons (pd_var 4) (pds_cons (pd_ix (pr_var 0)) pds_nil)))) (pds_cons pd_non pds_nil))) pds_nil)))
      (pss_cons (ps_if (pt_notN (pr_ix (pr_var 0))) (pss_one (ps_appD (pv 5) (pd_tup (pds_cons (pd_tup (pds_cons pd_str (pds_cons (pd_var 4) pds_nil))) (pds_cons (pd_tup (pds_cons (pd_var 3) (pds_cons (pd_ix (pr_var 0)) pds_nil))) pds_nil))) (pe_bm PySem.F.plainAttrs_list PySem.F.slot_list_append PySem.F.type_list_append mt_append (pv 5) (pds_cons (pd_tup (pds_cons (pd_tup (pds_cons pd_str (pds_cons (pd_var 4) pds_nil))) (pds_cons (pd_tup (pds_cons (pd_var 3) (pds_cons (pd_ix (pr_var 0)) pds_nil))) pds_nil))) pds_nil)))) pss_nil)
      (pss_one (ps_ret (pv 5)))))))))), ?_⟩
    obtain ⟨o, kd, h, se, c⟩ := r
    have S : SlD H [some (recD ⟨o, kd, h, se, c⟩)] [some v, none, none, none, none, none] := ⟨⟨v, rfl, t⟩, trivial⟩
    refine ⟨_, [.int o, .str (kname kd), .int h], S, rfl, rfl, fun vs1 H1 s1 t1 => ?_⟩
    simp only [TpAll, Tp] at t1
    obtain ⟨_, _, rfl, rfl, _, _, rfl, rfl, _, _, rfl, rfl, rfl⟩ := t1
    refine ⟨_, _, rfl, _, _, rfl, _, _, rfl, rfl, ?_⟩
    have S1 : SlD H1 [some (recD ⟨o, kd, h, se, c⟩)] [some v, some (.int o), some (.str (kname kd)), some (.int h), none, none] := ⟨⟨v, rfl, t.mono s1.t⟩, trivial⟩
    have fin : ∀ (n : Int) (z : Option V) (H2 : Hp), Tups H1 H2 → SlD H2 [some (recD ⟨o, kd, h, se, c⟩), some (.int o), some (.str (kname kd)), some (.int h), some (.int n)] [some v, some (.int o), some (.str (kname kd)), some (.int h), some (.int n), z] := fun n z H2 s2 =>
      ⟨⟨v, rfl, t.mono (s1.t.trans s2)⟩, ⟨_, rfl, Tp.int⟩, ⟨_, rfl, Tp.str⟩, ⟨_, rfl, Tp.int⟩, ⟨_, rfl, Tp.int⟩, trivial⟩
    have r1 := (L2.Same.refl H1).t
    have k' : ∀ l H', L2.Same H1 H' → H1 l = none → LstD H' l ((effL ⟨o, kd, h, se, c⟩).map effD) → Q (.ref l) H' := fun l H' s2 hl tl => k l H' (s1.trans s2) (s1.free hl) tl
    cases kd
    case mark | make | remove | write | trim | snap | drop => cases hc
    all_goals
      refine ⟨_, _, S1, rfl, fun v2 t2 => ?_⟩
      rw [t2.int_of]
      refine ⟨_, _, _, fin _ _ _ r1, rfl, rfl, ?_⟩
    case register n =>
      walk_at "kT"
      exact ⟨_, _, fin _ _ _ r1, rfl, ble1 rfl, k'⟩
    all_goals
      walk_at "kF"
      refine ⟨_, _, _, fin _ _ _ r1, rfl, rfl, ?_⟩
    case reserve n w =>
      walk_at "kT"
      exact ⟨_, _, fin _ _ _ r1, rfl, ble1 rfl, k'⟩
    all_goals
      walk_at "kF"
      refine ⟨_, _, _, fin _ _ _ r1, rfl, rfl, ?_⟩
    case release n =>
      walk_at "kT"
      exact ⟨_, _, fin _ _ _ r1, rfl, ble1 rfl, k'⟩
    all_goals
      walk_at "kF"
      refine ⟨_, _, _, fin _ _ _ r1, rfl, rfl, ?_⟩
    case leave n held =>
      walk_at "kT"
      refine ⟨_, _, fin _ _ _ r1, rfl, ble1 rfl, fun l H2 s2 hl t2 => ?_⟩
      refine ⟨_, held, fin _ _ _ s2.t, rfl, ?_⟩
      cases held with
      | false =>
        refine iteF ?_
        exact ⟨_, rfl, k' l H2 s2 hl t2⟩
      | true =>
        refine iteT ?_
        refine ⟨l, _, _, _, rfl, t2, small1000 (ble1 rfl), fin _ _ _ s2.t, rfl, fun H3 b3 t3 => ?_⟩
        exact ⟨_, rfl, k' l H3 (b3.same s2 fun x hx => by rw [List.mem_singleton.mp hx]; exact hl) hl t3⟩
    case preempt n vi w =>
      walk_at "kF"
      refine ⟨_, _, fin _ _ _ r1, rfl, ble1 rfl, fun l H2 s2 hl t2 => ?_⟩
      refine ⟨_, _, fin _ _ _ s2.t, rfl, ?_⟩
      cases w with
      | none =>
        refine iteF' rfl ?_
        exact ⟨_, rfl, k' l H2 s2 hl t2⟩
      | some w =>
        refine iteT' rfl ?_
        refine ⟨l, _, _, _, rfl, t2, small1000 (ble1 rfl), fin _ _ _ s2.t, rfl, fun H3 b3 t3 => ?_⟩
        exact ⟨_, rfl, k' l H3 (b3.same s2 fun x hx => by rw [List.mem_singleton.mp hx]; exact hl) hl t3⟩
end
end K13
/-! ## K13B -/
namespace K13
open PySem L2
theorem tp_one {H : Hp} {d : PyData} {us : List V} (h : TpAll H [d] us) : ∃ u, us = [u] ∧ Tp H d u := by
  simp only [TpAll] at h
  obtain ⟨u, _, rfl, t, rfl⟩ := h
  exact ⟨u, rfl, t⟩
/-- two lists of data, joined anew -/
theorem lst_cat {X : Cx} {H : Hp} {a b : Addr} {ds es : List PyData} {Q : VK} (ha : LstD H a ds) (hb : LstD H b es) (hl : ds.length + es.length ≤ 1000) (k : ∀ p H', L2.Same H H' → H p = none → LstD H' p (ds ++ es) → Q (.ref p) H') :
    rCat (.ref a) (.ref b) H Q := by
  obtain ⟨vs, h1, h2⟩ := ha
  obtain ⟨us, h3, h4⟩ := hb
  refine ⟨a, b, vs, us, rfl, rfl, h1, h3, ?_, fun p hp => ?_⟩
  · rw [← h2.length, ← h4.length]
    exact Nat.le_of_lt (small1000 hl)
  · exact k p _ (same_upd hp) hp ⟨_, upd_same, (h2.append h4).mono (same_upd hp).t⟩
theorem effL_len (r : Rec) : (effL r).length ≤ 2 := by
  unfold effL
  cases r.kd with
  | leave n held => cases held <;> simp
  | preempt n v w => cases w <;> simp
  | _ => simp
section
variable {P : Program} {w : World} {K : PySem.W.Frag} {mg : Str → Option Value} {base : Heap}
theorem scEff : FnScope ["record", "kind", "host", "session", "counter", "found"] ["record"] (defScope sEff) := ⟨rfl, rfl, rfl, by decide +kernel, rfl, by decide +kernel, by decide +kernel⟩
theorem ok_eff {f fA fS fF : Addr} {fd fdA fdS fdF : FuncData} {tk : Tok} (F : Fun K "effects" "effects" sEff f fd) (mH : mg "HEAD" = some (.int 5 tk))
    (FA : Fun K "answer_of" "answer_of" sAns fA fdA) (gA : mg "answer_of" = some (.ref fA)) (bA : Binds K fdA ["record"] [])
    (FS : Fun K "space_effects" "space_effects" sSpace fS fdS) (gS : mg "space_effects" = some (.ref fS)) (bS : Binds K fdS ["record"] [])
    (FF : Fun K "fence_effects" "fence_effects" sFence fF fdF) (gF : mg "fence_effects" = some (.ref fF)) (bF : Binds K fdF ["record"] []) :
    FnOk P w K mg base CX0 2 f fd ["record"] (spEffs (fun _ => true) eff) := by
  have GA : FnOk P w K mg base CX0 1 fA fdA ["record"] spAns := ok_ans FA
  have GS : FnOk P w K mg base CX0 1 fS fdS ["record"] (spEffs (fun r => r.kd.isSpace) effL) := ok_space FS
  have GF : FnOk P w K mg base CX0 1 fF fdF ["record"] (spEffs (fun r => r.kd.isFence) effL) := ok_fence FF
  refine F.ok scEff (fun vs H Q E h => ?_) (fun cdv A outer s H vs Q E hr h => ?_)
  · obtain ⟨r, v, rfl, _⟩ := h
    rfl
  · obtain ⟨r, v, rfl, t, _, k⟩ := h
    have nd := scEff.nd
    refine ⟨_, pss_cons (ps_unp (pd_cut (pd_var 0) (po_c pe_int) (po_c (pe_glob rfl mH ⟨_, rfl⟩))) (pg_tup rfl (pgs_cons (pg_name (i := 1) nd rfl (.inl rfl)) (pgs_cons (pg_name (i := 2) nd rfl (.inl rfl)) (pgs_cons (pg_name (i := 3) nd rfl (.inl rfl)) (pgs_cons (pg_name (i := 4) nd rfl (.inl rfl)) pgs_nil))))))
      (pss_cons (ps_set (i := 5) nd rfl (.inl rfl) (pe_lst (pa_cons (pe_tup (pa_cons (pd_tup (pds_cons pd_str (pds_cons (pd_var 2) pds_nil))) (pa_cons (pe_tup (pa_cons (pd_var 3) (pa_cons (pd_var 4) (pa_cons (pe_call GA hr rfl gA FA.kp bA .nil pass0 (pds_cons (pd_var 0) pds_nil)) pa_nil)))) pa_nil))) pa_nil)))
      (pss_cons (ps_if (pt_seq (pr_var 1) pr_str) (pss_one (ps_ret (pe_op op_cat (pv 5) (pd_lst (pds_cons (pd_tup (pds_cons (pd_tup (pds_cons pd_str (pds_cons (pd_var 2) pds_nil))) (pds_cons (pd_ix (pr_var 0)) pds_nil))) pds_nil))))) pss_nil)
      (pss_cons (ps_if (pt_sin (pr_var 1) (pds_cons pd_str (pds_cons pd_str (pds_cons pd_str (pds_cons pd_str (pds_cons pd_str pds_nil))))) rfl) (pss_one (ps_ret (pe_op op_cat (pv 5) (pe_call GF hr rfl gF FF.kp bF .nil pass0 (pds_cons (pd_var 0) pds_nil))))) pss_nil)
      (pss_one (ps_ret (pe_op op_cat (pv 5) (pe_call GS hr rfl gS FS.kp bS .nil pass0 (pds_cons (pd_var 0) pds_nil)))))))), ?_⟩
    have S : SlD H [some (recD r)] [some v, none, none, none, none, none] := ⟨⟨v, rfl, t⟩, trivial⟩
    refine ⟨_, [.str (kname r.kd), .int r.host, .int r.ses, .int r.cnt], S, rfl, rfl, fun vs1 H1 s1 t1 => ?_⟩
    simp only [TpAll, Tp] at t1
    obtain ⟨_, _, rfl, rfl, _, _, rfl, rfl, _, _, rfl, rfl, _, _, rfl, rfl, rfl⟩ := t1
    refine ⟨_, _, rfl, _, _, rfl, _, _, rfl, _, _, rfl, rfl, ?_⟩
    have fin : ∀ (z : Option V) (H2 : Hp), Tups H H2 → SlD H2 [some (recD r), some (.str (kname r.kd)), some (.int r.host), some (.int r.ses), some (.int r.cnt)] [some v, some (.str (kname r.kd)), some (.int r.host), some (.int r.ses), some (.int r.cnt), z] := fun z H2 s2 =>
      ⟨⟨v, rfl, t.mono s2⟩, ⟨_, rfl, Tp.str⟩, ⟨_, rfl, Tp.int⟩, ⟨_, rfl, Tp.int⟩, ⟨_, rfl, Tp.int⟩, trivial⟩
    refine ⟨_, _, fin none _ s1.t, rfl, fun u2 H2 s2 t2 => ?_⟩
    have z2 := s1.trans s2
    refine ⟨_, _, fin none _ z2.t, rfl, fun u3 H3 s3 t3 => ?_⟩
    have z3 := z2.trans s3
    refine ⟨_, _, fin none _ z3.t, rfl, fun u4 H4 s4 t4 => ?_⟩
    have z4 := z3.trans s4
    refine ⟨_, _, fin none _ z4.t, rfl, fun us5 H5 s5 t5 => ?_⟩
    have z5 := z4.trans s5
    obtain ⟨u5, rfl, t6⟩ := tp_one t5
    refine ⟨r, u5, rfl, t6, fun u6 H6 s6 t7 => ?_⟩
    have z6 := z5.trans s6
    refine ⟨(by show 3 ≤ sizeLine; decide), fun p hp => ⟨(by show 2 ≤ sizeLine; decide), fun q hq => ⟨(by show 1 ≤ sizeLine; decide), fun l hl => ?_⟩⟩⟩
    have y1 := same_upd (o := .tup [u3, u4, u6]) hp
    have y2 := same_upd (o := .tup [u2, .ref p]) hq
    have y3 := same_upd (o := .lst [.ref q]) hl
    have sl := (s3.trans (s4.trans (s5.trans (s6.trans (y1.trans (y2.trans y3))))))
    have z7 := z6.trans (y1.trans (y2.trans y3))
    have hf : LstD (upd (upd (upd H6 p (.tup [u3, u4, u6])) q (.tup [u2, .ref p])) l (.lst [.ref q])) l [effD (.host r.host, .ans r.ses r.cnt (ansOf r))] := by
      refine ⟨_, upd_same, TpAll.one ?_⟩
      refine Tp.tup (y3 _ _ upd_same) (TpAll.cons (t2.mono sl.t) (TpAll.one ?_))
      refine Tp.tup ((y2.trans y3) _ _ upd_same) (TpAll.cons (t3.mono (s4.trans (s5.trans (s6.trans (y1.trans (y2.trans y3))))).t) (TpAll.cons (t4.mono (s5.trans (s6.trans (y1.trans (y2.trans y3)))).t) (TpAll.one ?_)))
      exact t7.mono (y1.trans (y2.trans y3)).t
    have hl0 : H l = none := (z6.trans (y1.trans y2)).free hl
    generalize upd (upd (upd H6 p (.tup [u3, u4, u6])) q (.tup [u2, .ref p])) l (.lst [.ref q]) = H7 at hf z7
    have fin7 := fin (some (.ref l)) H7 z7.t
    have tail : ∀ (H8 : Hp) (b : Addr), L2.Same H7 H8 → LstD H8 b ((effL r).map effD) → rCat (.ref l) (.ref b) H8 Q := fun H8 b s8 hb =>
      lst_cat (X := cxOf CX0 P w K mg base ["record", "kind", "host", "session", "counter", "found"] "effects" (defScope sEff) f cdv A outer s H E) (hf.mono s8) hb (by have := effL_len r; simp only [List.length_map, List.length_cons, List.length_nil]; omega)
        fun p' H9 s9 hp' h9 => k p' H9 (z7.trans (s8.trans s9)) ((z7.trans s8).free hp') h9
    refine ⟨_, _, _, fin7, rfl, rfl, ?_⟩
    obtain ⟨o, kd, ho, se, c⟩ := r
    cases kd
    case mark tt =>
      walk_at "kT"
      refine ⟨_, rfl, _, _, fin7, rfl, ble1 rfl, fun b H8 s8 hb t8 => tail H8 b s8 t8⟩
    all_goals
      walk_at "kF"
      refine ⟨_, _, ["register", "leave", "reserve", "release", "preempt"], fin7, rfl, rfl, ble1 rfl, fun H8 s8 => ?_⟩
      have fin8 := fin (some (.ref l)) H8 (z7.trans s8).t
    case register | leave | reserve | release | preempt =>
      walk_at "kT"
      refine ⟨_, rfl, _, _, fin8, rfl, fun us9 H9 s9 t9 => ?_⟩
      obtain ⟨u9, rfl, t10⟩ := tp_one t9
      exact ⟨_, u9, rfl, t10, rfl, fun b H10 s10 hb t11 => tail H10 b (s8.trans (s9.trans s10)) t11⟩
    all_goals
      walk_at "kF"
      refine ⟨_, rfl, _, _, fin8, rfl, fun us9 H9 s9 t9 => ?_⟩
      obtain ⟨u9, rfl, t10⟩ := tp_one t9
      exact ⟨_, u9, rfl, t10, rfl, fun b H10 s10 hb t11 => tail H10 b (s8.trans (s9.trans s10)) t11⟩
end
end K13
/-! ## K13T -/
/-! The table of the rows: what stands in memory, and the methods that read it. -/
namespace K13
open PySem L2
def rowD (g : Int × Vl) : PyData := .tuple [.int g.1, vlD g.2]
def topN : Topic → Str
  | .host _ => "host" | .told _ => "told" | .space _ => "space" | .gone _ => "gone" | .place _ _ => "place" | .snap _ _ => "snap" | .key _ _ => "key" | .hold _ => "hold"
theorem topD0 (t : Topic) : dIx (dC (topD t)) 0 [] = some (.str (topN t)) := by cases t <;> rfl
theorem topD1 (t : Topic) : dIx (dC (topD t)) 1 [] = some (.int t.snd) := by cases t <;> rfl
theorem ixC {x : DX} {d : PyData} {δ : DE} {j : Nat} {r : PyData} (h : x δ = some d) (e : dIx (dC d) j [] = some r) : dIx x j δ = some r := by
  unfold dIx dC at *
  rw [h]
  exact e
theorem ks1 {a b : Str} {x y : List L2.Key} (h : (Sum.inr a : L2.Key) :: x = Sum.inr b :: y) (ne : decide (a = b) = false) : False := by
  injection h with h1 _
  injection h1 with h2
  rw [h2] at ne
  simp at ne
theorem topK_inj {a b : Topic} (h : topK a = topK b) : a = b := by
  cases a <;> cases b <;> first | exact (ks1 h (by decide +kernel)).elim | (simp [topK] at h; simp [h])
/-! ### dicts of lists under topics -/
abbrev TsV (ts : List (Topic × Addr)) : List (List L2.Key × V) := ts.map fun z => (topK z.1, V.ref z.2)
theorem valTs_in {ts : List (Topic × Addr)} {t : Topic} {l : Addr} (nd : (ts.map (·.1)).Nodup) (h : (t, l) ∈ ts) : valV (TsV ts) (topK t) = some (.ref l) := by
  induction ts with
  | nil => cases h
  | cons z ts ih =>
    rw [List.map_cons, List.nodup_cons] at nd
    show valV ((topK z.1, V.ref z.2) :: TsV ts) (topK t) = _
    rcases List.mem_cons.mp h with e | h
    · rw [← e]
      exact valV_pos rfl
    · rw [valV_neg, ih nd.2 h]
      intro e
      have e' : z.1 = t := topK_inj e
      exact nd.1 (List.mem_map.mpr ⟨_, h, e'.symm⟩)
theorem valTs_out {ts : List (Topic × Addr)} {t : Topic} (h : t ∉ ts.map (·.1)) : valV (TsV ts) (topK t) = none := by
  induction ts with
  | nil => rfl
  | cons z ts ih =>
    rw [List.map_cons, List.mem_cons, not_or] at h
    show valV ((topK z.1, V.ref z.2) :: TsV ts) (topK t) = _
    rw [valV_neg, ih h.2]
    intro e
    exact h.1 (topK_inj e).symm
/-- the rows of all topics of L -/
structure RowsAt (H : Hp) (b : Addr) (L : List Rec) (ts : List (Topic × Addr)) : Prop where
  dc : Rd H b (.dT (TsV ts))
  nd : (ts.map (·.1)).Nodup
  ls : ∀ z ∈ ts, LstD H z.2 ((rows L z.1).map rowD) ∧ rows L z.1 ≠ []
  all : ∀ t, rows L t ≠ [] → t ∈ ts.map (·.1)
  few : ts.length ≤ 3000
theorem rd_same {H H' : Hp} (s : L2.Same H H') {b : Addr} {o : HO} (r : Rd H b o) : Rd H' b o := by
  rcases r with r | ⟨u, r⟩
  · exact .inl (s _ _ r)
  · exact .inr ⟨u, s _ _ r⟩
theorem RowsAt.mono {H H' : Hp} (s : L2.Same H H') {b : Addr} {L : List Rec} {ts : List (Topic × Addr)} (R : RowsAt H b L ts) : RowsAt H' b L ts :=
  ⟨rd_same s R.dc, R.nd, fun z hz => ⟨(R.ls z hz).1.mono s, (R.ls z hz).2⟩, R.all, R.few⟩
abbrev meths : List Str := ["is_hidden", "views", "last_index", "live_orders", "live"]
/-- a table at p whose rows are those of L -/
structure TabR (C : Addr) (H : Hp) (p : Addr) (L : List Rec) (b : Addr) (ts : List (Topic × Addr)) : Prop where
  ob : ∃ dx fs, H p = some (.ins C dx fs) ∧ fs.lookup ("rows" : Str) = some (V.ref b) ∧ ∀ m ∈ meths, fs.lookup m = none
  rw : RowsAt H b L ts
theorem TabR.mono {C : Addr} {H H' : Hp} (s : L2.Same H H') {p : Addr} {L : List Rec} {b : Addr} {ts : List (Topic × Addr)} (T : TabR C H p L b ts) : TabR C H' p L b ts := by
  obtain ⟨dx, fs, h1, h2, h3⟩ := T.ob
  exact ⟨⟨dx, fs, s _ _ h1, h2, h3⟩, T.rw.mono s⟩
/-- facts of the class and of the module -/
structure Txt (K : PySem.W.Frag) (mg : Str → Option Value) (C : Addr) : Prop where
  cl : Cls K C
  nRec : NoAttr K C "records"
  nRows : NoAttr K C "rows"
  nOld : NoAttr K C "oldest"
  nSnap : NoAttr K C "snapshots"
  mgC : mg "Table" = some (.ref C)
  hH : ∃ a, mg "HOST_TOPICS" = some (.ref a) ∧ ∀ H, SqT K H a ((["host", "told"] : List Str).map V.str)
  len : mg "len" = none
  sorted : mg "sorted" = none
def viewV : Option Int → V
  | none => .non
  | some k => .int k
theorem contains_isH (t : Topic) : (["host", "told"] : List Str).contains (topN t) = t.isH := by
  cases t <;> (dsimp only [topN, Topic.isH]; decide +kernel)
section
variable {X : Cx} {K : PySem.W.Frag} {e : Expr}
/-- self.rows.get(topic, []) -/
def tRowsGet (C : Addr) (x : DX) : TE := fun σ H Q => ∃ (p : Addr) (L : List Rec) (b : Addr) (ts : List (Topic × Addr)) (t : Topic) (δ : DE), σ[0]? = some (some (.ref p)) ∧ TabR C H p L b ts ∧ SlD H δ σ ∧ x δ = some (topD t) ∧
  ∀ l H', L2.Same H H' → LstD H' l ((rows L t).map rowD) → Q (.ref l) H'
theorem pe_rowsGet {C : Addr} {mg : Str → Option Value} {x : DX} (T : Txt X.K mg C) (h : PE X e (tDGet2 (tFld X.K (tVar 0) "rows") (tD x) (tLst tNil))) : PE X e (tRowsGet C x) :=
  PE.imp h fun σ H Q q => by
    obtain ⟨p, L, b, ts, t, δ, e1, TR, S, e2, k⟩ := q
    obtain ⟨dx, fs, h1, h2, h3⟩ := TR.ob
    refine ⟨_, e1, p, C, dx, fs, _, rfl, h1, T.cl, T.nRows, h2, b, rfl, .inr ⟨_, TR.rw.dc⟩, δ, _, S, e2, fun v H1 s1 t1 => ?_⟩
    obtain ⟨kb, rfl, hk⟩ := tp_top.mp t1
    refine ⟨(by show 0 ≤ sizeLine; decide), fun q hq => ?_⟩
    have s2 := s1.trans (same_upd (o := .lst []) hq)
    have R2 := TR.rw.mono s2
    refine ⟨_, .inr ⟨_, topK t, kb, R2.dc, rfl, same_upd hq _ _ hk, rfl⟩, ?_⟩
    by_cases hm : t ∈ ts.map (·.1)
    · obtain ⟨⟨t', l⟩, hz, rfl⟩ := List.mem_map.mp hm
      rw [valTs_in R2.nd hz]
      exact k l _ s2 (R2.ls _ hz).1
    · rw [valTs_out hm]
      have hn : rows L t = [] := Classical.byContradiction fun z => hm (R2.all t z)
      refine k q _ s2 ?_
      rw [hn]
      exact ⟨[], upd_same, TpAll.nil⟩
end
/-- a for over a list of data -/
theorem for_lstD {K : PySem.W.Frag} {a : Addr} {ds : List PyData} {g : TG} {tb : TS} {D : Ends} {σ : St} {H : Hp} (hL : LstD H a ds) (Pv : Nat → St → Hp → Prop) (h0 : Pv 0 σ H) (hl : ∀ i σ H', Pv i σ H' → (∀ o, H a = some o → H' a = some o) ∧ Tups H H')
    (hs : ∀ i d v σ H', ds[i]? = some d → Tp H' d v → Pv i σ H' → g v σ H' fun σ2 H2 => tb { D with nx := Pv (i + 1), ct := Pv (i + 1), bk := D.nx } σ2 H2) (hd : ∀ σ H', Pv ds.length σ H' → D.nx σ H') :
    (∃ xs, SqL K H a xs) ∧ ∃ W : Nat → Nat → St → Hp → Prop, (∃ m, W 0 m σ H) ∧ ∀ i m σ H, W i m σ H →
      ((Itl K a).stop i H ∧ D.nx σ H) ∨ ((Itl K a).go i H ∧ ∃ N : St → Hp → Prop, (∀ σ' H', N σ' H' → ∃ m', m' < m ∧ W (i + 1) m' σ' H') ∧ ∀ x H', (Itl K a).yld i H x H' → g x σ H' fun σ2 H2 => tb { D with nx := N, ct := N, bk := D.nx } σ2 H2) := by
  obtain ⟨vs, h1, h2⟩ := id hL
  refine ⟨⟨vs, SqL.of h1⟩, ?_⟩
  refine for_list (K := K) (a := a) (xs := vs) Pv h0 (fun i σ' H' _ p => SqL.of ((hl i σ' H' p).1 _ h1)) ?_ ?_
  · intro i x σ' H' hx p
    obtain ⟨d, hd', t⟩ := h2.get' hx
    exact hs i d x σ' H' hd' (t.mono (hl i σ' H' p).2) p
  · intro σ' H' p
    rw [← h2.length] at p
    exact hd σ' H' p
end K13
/-! ## K13U -/
namespace K13
open PySem L2
abbrev sHid : Stmt := inClass (top 12) 1
abbrev sViews : Stmt := inClass (top 12) 2
abbrev sLast : Stmt := inClass (top 12) 3
theorem dtup2 {x y : DX} {δ : DE} {a b : PyData} (hx : x δ = some a) (hy : y δ = some b) : dTup (dCons x (dCons y dNil)) δ = some (.tuple [a, b]) := by
  simp [dTup, dCons, dNil, hx, hy]
def spHid (C : Addr) : Sp := fun vs H Q _ => ∃ (p : Addr) (L : List Rec) (b : Addr) (ts : List (Topic × Addr)) (t : Topic) (tv : V) (o : Int) (w : Option Int), vs = [.ref p, tv, .int o, viewV w] ∧ TabR C H p L b ts ∧ Tp H (topD t) tv ∧
  ∀ H', L2.Same H H' → Q (.bl (hidden L t o w)) H'
section
variable {P : Program} {w : World} {K : PySem.W.Frag} {mg : Str → Option Value} {base : Heap}
theorem scHid : FnScope ["self", "topic", "order", "view", "gone", "_"] ["self", "topic", "order", "view"] (defScope sHid) := ⟨rfl, rfl, rfl, by decide +kernel, rfl, by decide +kernel, by decide +kernel⟩
theorem ok_hid {f C : Addr} {fd : FuncData} (F : Fun K "is_hidden" "Table.is_hidden" sHid f fd) (T : Txt K mg C) : FnOk P w K mg base CX0 1 f fd ["self", "topic", "order", "view"] (spHid C) := by
  refine F.ok scHid (fun vs H Q E h => ?_) (fun cdv A outer s H vs Q E hr h => ?_)
  · obtain ⟨p, L, b, ts, t, tv, o, w, rfl, _⟩ := h
    rfl
  · obtain ⟨p, L, b, ts, t, tv, o, w, rfl, TR, tt, k⟩ := h
    have nd := scHid.nd
    have hu := hu_of hr
    obtain ⟨aH, mH, hH⟩ := T.hH
    refine ⟨_, pss_cons (ps_if (pt_sinK (pr_ix (pr_var 1)) (pe_glob rfl mH rfl) hH rfl) (pss_one (ps_ret pe_bl)) pss_nil)
      (pss_cons (ps_for PassesOwn.never rfl (pi_list (pe_rowsGet T (pe_dget2 hu (pe_fld (pv 0) rfl) (pd_tup (pds_cons pd_str (pds_cons (pd_ix (pr_var 1)) pds_nil))) (pe_lst pa_nil) ⟨rfl, rfl, rfl, rfl⟩)))
        (pg_tup rfl (pgs_cons (pg_name (i := 4) nd rfl (.inl rfl)) (pgs_cons (pg_name (i := 5) nd rfl (.inl rfl)) pgs_nil)))
        (pss_one (ps_if (pw_and (pt_cmpR op_gt (pv 4) (pv 2) (nomark _)) (pw_and1 (pw_or (pt_cmp (pc_isN (pv 3))) (pw_or1 (pt_cmpR op_lt (pv 4) (pv 3) (nomark _)))).pt)).pt (pss_one (ps_ret pe_bl)) pss_nil)))
      (pss_one (ps_ret pe_bl))), ?_⟩
    have S : SlD H [none, some (topD t)] [some (.ref p), some tv, some (.int o), some (viewV w), none, none] := ⟨⟨tv, rfl, tt⟩, trivial⟩
    refine ⟨_, topN t, S, ixC rfl (topD0 t), ?_⟩
    rw [contains_isH]
    cases hT : t.isH with
    | true =>
      refine iteT' rfl ?_
      have e : hidden L t o w = false := by unfold hidden; rw [hT]; rfl
      have q := k H (L2.Same.refl H)
      rw [e] at q
      exact q
    | false =>
      refine iteF' rfl ?_
      refine ⟨p, L, b, ts, .gone t.snd, _, rfl, TR, S, dtup2 rfl (ixC (x := dVar 1) rfl (topD1 t)), fun l H1 s1 hl => ⟨l, rfl, ?_⟩⟩
      have hid : hidden L t o w = (rows L (.gone t.snd)).any fun g => decide (o < g.1) && cnt w g.1 := by unfold hidden; rw [hT]; rfl
      refine for_lstD hl (fun i σ' H' => H' = H1 ∧ (∃ x4 x5, σ' = [some (.ref p), some tv, some (.int o), some (viewV w), x4, x5]) ∧ (((rows L (.gone t.snd)).take i).any fun g => decide (o < g.1) && cnt w g.1) = false)
        ⟨rfl, ⟨none, none, rfl⟩, rfl⟩ (fun i σ' H' ⟨e, _⟩ => ⟨fun u z => by rw [e]; exact z, fun u z y => by rw [e]; exact y⟩) ?_ ?_
      · rintro i d v σ' H' hd t1 ⟨rfl, ⟨x4, x5, rfl⟩, hi⟩
        rw [List.getElem?_map] at hd
        cases hg : (rows L (.gone t.snd))[i]? with
        | none => rw [hg] at hd; cases hd
        | some g =>
          rw [hg] at hd
          cases hd
          obtain ⟨a, xs, rfl, h2, h3⟩ := Tp.out t1
          simp only [TpAll, Tp] at h3
          obtain ⟨_, _, rfl, rfl, u, _, rfl, hu5, rfl⟩ := h3
          refine ⟨a, _, rfl, SqT.of h2, rfl, _, _, rfl, _, _, rfl, rfl, ?_⟩
          have tk : (rows L (.gone t.snd)).take (i + 1) = (rows L (.gone t.snd)).take i ++ [g] := by
            rw [List.take_add_one, hg]
            rfl
          have nxt : (decide (o < g.1) && cnt w g.1) = false → (((rows L (.gone t.snd)).take (i + 1)).any fun g => decide (o < g.1) && cnt w g.1) = false := fun z => by
            rw [tk, List.any_append, hi, List.any_cons, z]
            rfl
          have found : (decide (o < g.1) && cnt w g.1) = true → Q (.bl true) H' := fun z => by
            have q := k H' s1
            have e : hidden L t o w = true := by
              rw [hid, List.any_eq_true]
              exact ⟨g, List.mem_of_getElem? hg, z⟩
            rw [e] at q
            exact q
          refine ⟨_, rfl, _, rfl, g.1, o, rfl, rfl, _, rfl, ?_⟩
          by_cases hlt : o < g.1
          · refine iteT' (decide_eq_true hlt) ?_
            cases w with
            | none =>
              refine ⟨_, rfl, _, rfl, iteT' rfl ?_⟩
              refine iteT' rfl ?_
              exact found (by rw [decide_eq_true hlt]; rfl)
            | some kk =>
              refine ⟨_, rfl, _, rfl, iteF' rfl ?_⟩
              refine ⟨_, rfl, _, rfl, g.1, kk, rfl, rfl, _, rfl, ?_⟩
              by_cases hk : g.1 < kk
              · refine iteT' (decide_eq_true hk) ?_
                exact found (by rw [decide_eq_true hlt]; show decide (g.1 < kk) = true; exact decide_eq_true hk)
              · refine iteF' (decide_eq_false hk) ?_
                refine ⟨rfl, ⟨_, _, rfl⟩, nxt ?_⟩
                rw [decide_eq_true hlt]
                show decide (g.1 < kk) = false
                exact decide_eq_false hk
          · refine iteF' (decide_eq_false hlt) ?_
            refine iteF' rfl ?_
            exact ⟨rfl, ⟨_, _, rfl⟩, nxt (by rw [decide_eq_false hlt]; rfl)⟩
      · rintro σ' H' ⟨rfl, ⟨x4, x5, rfl⟩, hi⟩
        rw [List.length_map, List.take_length] at hi
        have q := k H' s1
        rw [hid, hi] at q
        exact q
end
/-- a comprehension over a list of data -/
theorem lc_lstD {K : PySem.W.Frag} {a : Addr} {ds : List PyData} {g : TG} {tt : TT} {te : TE} {vs : List Nat} {σ : St} {H1 : Hp} {D : Addr} {Qd : Hp → Prop} (hL : LstD H1 a ds) (hD : H1 D = none) (Pv : Nat → Hp → Prop) (h0 : Pv 0 (upd H1 D (.lst [])))
    (hl : ∀ i H, Pv i H → L2.Same H1 H)
    (hs : ∀ i d v H, ds[i]? = some d → Tp H1 d v → Tp H d v → Pv i H → g v (wipe σ vs) H fun σ2 H2 => wipe σ2 vs = wipe σ vs ∧ tt σ2 H2 fun b H3 =>
      if b = true then te σ2 H3 fun y H4 => ∃ acc, H4 D = some (.lst acc) ∧ acc.length < sizeLine ∧ Pv (i + 1) (upd H4 D (.lst (acc ++ [y]))) else Pv (i + 1) H3) (hd : ∀ H, Pv ds.length H → Qd H) :
    ∃ W : Nat → Nat → Hp → Prop, (∃ m, W 0 m (upd H1 D (.lst []))) ∧ ∀ i m H, W i m H →
      ((Itl K a).stop i H ∧ Qd H) ∨ ((Itl K a).go i H ∧ ∃ Nx : Hp → Prop, (∀ H', Nx H' → ∃ m', m' < m ∧ W (i + 1) m' H') ∧ ∀ x H', (Itl K a).yld i H x H' → g x (wipe σ vs) H' fun σ2 H2 => wipe σ2 vs = wipe σ vs ∧ tt σ2 H2 fun b H3 =>
        if b = true then te σ2 H3 fun y H4 => ∃ acc, H4 D = some (.lst acc) ∧ acc.length < sizeLine ∧ Nx (upd H4 D (.lst (acc ++ [y]))) else Nx H3) := by
  obtain ⟨us, h1, h2⟩ := id hL
  refine lc_list (K := K) (a := a) (xs := us) Pv h0 (fun i H' _ p => SqL.of (hl i H' p _ _ h1)) ?_ ?_
  · intro i x H' hx p
    obtain ⟨d, hd', t⟩ := h2.get' hx
    exact hs i d x H' hd' t (t.mono (hl i H' p).t) p
  · intro H' p
    rw [← h2.length] at p
    exact hd H' p
theorem LstD.sq {K : PySem.W.Frag} {H : Hp} {a : Addr} {ds : List PyData} (h : LstD H a ds) : ∃ xs, SqL K H a xs := by
  obtain ⟨vs, h1, _⟩ := h
  exact ⟨vs, SqL.of h1⟩
theorem rowsC_none (L : List Rec) (t : Topic) : rowsC L t none = rows L t := by
  unfold rowsC
  rw [List.filter_eq_self]
  exact fun _ _ => rfl
theorem lst_len {K : PySem.W.Frag} {H : Hp} {l : Addr} {ds : List PyData} (h : LstD H l ds) : ∃ vs, (SqL K H l vs ∨ SqT K H l vs) ∧ vs.length = ds.length := by
  obtain ⟨vs, h1, h2⟩ := h
  exact ⟨vs, .inl (SqL.of h1), h2.length.symm⟩
theorem LstD.small {X : Cx} {pins : List (Addr × Obj)} {σ : St} {H : Hp} {s : Shared} (I : Inv X pins σ H s) {l : Addr} {ds : List PyData} (h : LstD H l ds) : ds.length ≤ sizeLine := by
  obtain ⟨vs, h1, h2⟩ := h
  have z := (I.hok _ _ h1).1
  rw [h2.length]
  exact z
def spLast (C : Addr) : Sp := fun vs H Q _ => ∃ (p : Addr) (L : List Rec) (b : Addr) (ts : List (Topic × Addr)) (t : Topic) (tv : V) (w : Option Int), vs = [.ref p, tv, viewV w] ∧ TabR C H p L b ts ∧ Tp H (topD t) tv ∧ (rows L t).length < sizeLine ∧
  ∀ H', L2.Same H H' → Q (.int ((rowsC L t w).length - 1)) H'
section
variable {P : Program} {w : World} {K : PySem.W.Frag} {mg : Str → Option Value} {base : Heap}
theorem scLast : FnScope ["self", "topic", "view", "rows", "row"] ["self", "topic", "view"] (defScope sLast) := ⟨rfl, rfl, rfl, by decide +kernel, rfl, by decide +kernel, by decide +kernel⟩
theorem ok_last {f C : Addr} {fd : FuncData} (F : Fun K "last_index" "Table.last_index" sLast f fd) (T : Txt K mg C) : FnOk P w K mg base CX0 1 f fd ["self", "topic", "view"] (spLast C) := by
  refine F.ok scLast (fun vs H Q E h => ?_) (fun cdv A outer s H vs Q E hr h => ?_)
  · obtain ⟨p, L, b, ts, t, tv, w, rfl, _⟩ := h
    rfl
  · obtain ⟨p, L, b, ts, t, tv, w, rfl, TR, tt, hsz, k⟩ := h
    have nd := scLast.nd
    have hu := hu_of hr
    refine ⟨_, pss_cons (ps_set (i := 3) nd rfl (.inl rfl) (pe_rowsGet T (pe_dget2 hu (pe_fld (pv 0) rfl) (pd_var 1) (pe_lst pa_nil) ⟨rfl, rfl, rfl, rfl⟩)))
      (pss_cons (ps_if (pt_cmp (pc_isN (pv 2))) (pss_one (ps_ret (pe_op op_sub (pe_callB call_len_seq (by rfl) T.len PySem.boot_len (pa_cons (pv 3) pa_nil)) pe_int))) pss_nil)
      (pss_one (ps_ret (pe_op op_sub (pe_callB call_len_seq (by rfl) T.len PySem.boot_len (pa_cons (pe_lc (own := [("row", 4)]) (g := gName 4) rfl nd (pi_list (pv 3)) (blkOk_by (N := ["self", "topic", "view", "rows", "row"]) (sc := defScope sLast) (by decide +kernel))
        (fun _ _ _ _ _ => pg_name (i := 4) nd rfl (Or.inl rfl)) (fun _ _ _ _ _ => pts_one (pt_cmpR op_lt (pr_ix (pr_var 4)) (pv 2) (nomark _))) (fun _ _ _ _ _ => pv 4)) pa_nil)) pe_int)))), ?_⟩
    have S : SlD H [none, some (topD t)] [some (.ref p), some tv, some (viewV w), none, none] := ⟨⟨tv, rfl, tt⟩, trivial⟩
    refine ⟨p, L, b, ts, t, _, rfl, TR, S, rfl, fun l H1 s1 hl => ?_⟩
    refine ⟨_, rfl, _, rfl, ?_⟩
    cases w with
    | none =>
      refine iteT' rfl ?_
      obtain ⟨us, h1, h2⟩ := lst_len (K := K) hl
      refine ⟨_, rfl, l, us, rfl, h1, _, _, rfl, rfl, ?_⟩
      rw [h2, List.length_map]
      have q := k H1 s1
      rw [rowsC_none] at q
      exact q
    | some kk =>
      refine iteF' rfl ?_
      refine ⟨_, rfl, l, rfl, hl.sq, fun D hD => ?_⟩
      refine lc_lstD hl hD (fun i H' => ∃ acc, H' = upd H1 D (.lst acc) ∧ TpAll H1 ((((rows L t).take i).filter fun g => cnt (some kk) g.1).map rowD) acc ∧ acc.length ≤ i) ⟨[], rfl, TpAll.nil, Nat.le_refl _⟩
        (fun i H' ⟨acc, e, _⟩ => by rw [e]; exact same_upd hD) ?_ ?_
      · rintro i d v H' hd t0 t1 ⟨acc, rfl, hacc, hal⟩
        rw [List.getElem?_map] at hd
        cases hg : (rows L t)[i]? with
        | none => rw [hg] at hd; cases hd
        | some g =>
          rw [hg] at hd
          cases hd
          have hi : i < (rows L t).length := (List.getElem?_eq_some_iff.mp hg).1
          have tk : (rows L t).take (i + 1) = (rows L t).take i ++ [g] := by
            rw [List.take_add_one, hg]
            rfl
          have S2 : SlD (upd H1 D (.lst acc)) [none, none, none, none, some (rowD g)] [some (.ref p), some tv, some (.int kk), some (.ref l), some v] := ⟨⟨v, rfl, t1⟩, trivial⟩
          refine ⟨rfl, _, _, S2, rfl, fun v3 t3 => ?_⟩
          rw [t3.int_of]
          refine ⟨_, rfl, g.1, kk, rfl, rfl, _, rfl, ?_⟩
          by_cases hk : g.1 < kk
          · refine iteT' (decide_eq_true hk) ?_
            refine ⟨_, rfl, acc, upd_same, by omega, acc ++ [v], by rw [upd_upd], ?_, by rw [List.length_append]; exact Nat.succ_le_succ hal⟩
            rw [tk, List.filter_append, List.map_append]
            have e : List.filter (fun g => cnt (some kk) g.1) [g] = [g] := by
              rw [List.filter_cons, if_pos (show cnt (some kk) g.1 = true from decide_eq_true hk)]
              rfl
            rw [e]
            exact hacc.append (TpAll.one t0)
          · refine iteF' (decide_eq_false hk) ?_
            refine ⟨acc, rfl, ?_, by omega⟩
            rw [tk, List.filter_append]
            have e : List.filter (fun g => cnt (some kk) g.1) [g] = [] := by
              rw [List.filter_cons, if_neg (by show ¬ decide (g.1 < kk) = true; rw [decide_eq_false hk]; exact Bool.false_ne_true)]
              rfl
            rw [e, List.append_nil]
            exact hacc
      · rintro H' ⟨acc, rfl, hacc, _⟩
        refine ⟨D, acc, rfl, .inl (SqL.of upd_same), _, _, rfl, rfl, ?_⟩
        have q := k (upd H1 D (.lst acc)) (s1.trans (same_upd hD))
        have e : acc.length = (rowsC L t (some kk)).length := by
          rw [← hacc.length, List.length_map, List.length_map, List.take_length]
          rfl
        rw [e]
        exact q
end
end K13
/-! ## K13V -/
namespace K13
open PySem L2
abbrev sLord : Stmt := inClass (top 12) 4
def flds (a b c d : Addr) : List (Str × V) := putF "snapshots" (.ref d) (putF "oldest" (.ref c) (putF "rows" (.ref b) (putF "records" (.ref a) [])))
theorem fne1 : ¬ (("rows" : Str) = "snapshots") := by decide +kernel
theorem fne2 : ¬ (("rows" : Str) = "oldest") := by decide +kernel
theorem fne3 : ¬ (("oldest" : Str) = "snapshots") := by decide +kernel
theorem fne4 : ¬ (("records" : Str) = "snapshots") := by decide +kernel
theorem fne5 : ¬ (("records" : Str) = "oldest") := by decide +kernel
theorem fne6 : ¬ (("records" : Str) = "rows") := by decide +kernel
theorem flds_snap (a b c d : Addr) : (flds a b c d).lookup ("snapshots" : Str) = some (.ref d) := by
  unfold flds
  rw [lookup_putF, if_pos rfl]
theorem flds_old (a b c d : Addr) : (flds a b c d).lookup ("oldest" : Str) = some (.ref c) := by
  unfold flds
  rw [lookup_putF, if_neg fne3, lookup_putF, if_pos rfl]
theorem flds_rows (a b c d : Addr) : (flds a b c d).lookup ("rows" : Str) = some (.ref b) := by
  unfold flds
  rw [lookup_putF, if_neg fne1, lookup_putF, if_neg fne2, lookup_putF, if_pos rfl]
theorem flds_rec (a b c d : Addr) : (flds a b c d).lookup ("records" : Str) = some (.ref a) := by
  unfold flds
  rw [lookup_putF, if_neg fne4, lookup_putF, if_neg fne5, lookup_putF, if_neg fne6, lookup_putF, if_pos rfl]
theorem meths_ne : ∀ m ∈ meths, ¬ m = ("snapshots" : Str) ∧ ¬ m = ("oldest" : Str) ∧ ¬ m = ("rows" : Str) ∧ ¬ m = ("records" : Str) := by decide +kernel
theorem flds_no (a b c d : Addr) : ∀ m ∈ meths, (flds a b c d).lookup m = none := by
  intro m hm
  obtain ⟨h1, h2, h3, h4⟩ := meths_ne m hm
  unfold flds
  rw [lookup_putF, if_neg h1, lookup_putF, if_neg h2, lookup_putF, if_neg h3, lookup_putF, if_neg h4]
  rfl
def viewD : Option Int → PyData
  | none => .none
  | some k => .int k
theorem tp_view {H : Hp} {w : Option Int} {v : V} (h : Tp H (viewD w) v) : v = viewV w := by
  cases w with
  | none => simpa only [viewD, viewV, Tp] using h
  | some k => simpa only [viewD, viewV, Tp] using h
/-- the snapshots of one namespace, by what the dict gives -/
def SnapL (H : Hp) (L : List Rec) (n : Int) : Option V → Prop
  | none => ∀ k, ¬ ex L n k
  | some v => ∃ (l : Addr) (ks : List Int), v = .ref l ∧ LstD H l (ks.map PyData.int) ∧ ks.Nodup ∧ (∀ k, k ∈ ks ↔ ex L n k) ∧ ks.length ≤ 3000
def SnapsAt (H : Hp) (d : Addr) (L : List Rec) : Prop := ∃ kvs : List (L2.Key × V), H d = some (.dK kvs) ∧ ∀ n, SnapL H L n (valV kvs (Sum.inl n))
def OldAt (H : Hp) (c : Addr) (L : List Rec) : Prop := ∃ kvs : List (L2.Key × V), H c = some (.dK kvs) ∧ ∀ n, valV kvs (Sum.inl n) = (oldest L n).map V.int
/-- a whole table -/
structure TabF (C : Addr) (H : Hp) (p : Addr) (L : List Rec) (a b c d : Addr) (ts : List (Topic × Addr)) : Prop where
  ob : ∃ dx, H p = some (.ins C dx (flds a b c d))
  rc : LstD H a (L.map recD)
  rw : RowsAt H b L ts
  old : OldAt H c L
  sn : SnapsAt H d L
section
variable {C : Addr} {H H' : Hp} {p : Addr} {L : List Rec} {a b c d : Addr} {ts : List (Topic × Addr)}
theorem TabF.r (T : TabF C H p L a b c d ts) : TabR C H p L b ts := by
  obtain ⟨dx, h⟩ := T.ob
  exact ⟨⟨dx, _, h, flds_rows a b c d, flds_no a b c d⟩, T.rw⟩
theorem SnapL.mono {n : Int} (s : L2.Same H H') {o : Option V} (h : SnapL H L n o) : SnapL H' L n o := by
  cases o with
  | none => exact h
  | some v =>
    obtain ⟨l, ks, e, h1, h2⟩ := h
    exact ⟨l, ks, e, h1.mono s, h2⟩
theorem SnapsAt.mono (s : L2.Same H H') (h : SnapsAt H d L) : SnapsAt H' d L := by
  obtain ⟨kvs, h1, h2⟩ := h
  exact ⟨kvs, s _ _ h1, fun n => (h2 n).mono s⟩
theorem OldAt.mono (s : L2.Same H H') (h : OldAt H c L) : OldAt H' c L := by
  obtain ⟨kvs, h1, h2⟩ := h
  exact ⟨kvs, s _ _ h1, h2⟩
theorem TabF.mono (s : L2.Same H H') (T : TabF C H p L a b c d ts) : TabF C H' p L a b c d ts := by
  obtain ⟨dx, h⟩ := T.ob
  exact ⟨⟨dx, s _ _ h⟩, T.rc.mono s, T.rw.mono s, T.old.mono s, T.sn.mono s⟩
end
/-! ### places of lists and tuples -/
section
variable {X : Cx} {e : Expr} {t u : TE} {pos : Pos}
def tIx (t : TE) (j : Nat) : TE := fun σ H Q => t σ H fun v H1 => ∃ ds d, Tp H1 (.tuple ds) v ∧ ds[j]? = some d ∧ ∀ z, Tp H1 d z → Q z H1
theorem pe_tix {i : Int} {j : Nat} {p1 : Pos} (he : PE X e t) (h0 : 0 ≤ i := by decide) (hs : PlainIx (.Constant (.int i) j p1) := by exact fun _ _ => rfl) (hm : ∀ σ H (Q Q' : VK), (∀ v H', Q v H' → Q' v H') → t σ H Q → t σ H Q') : PE X (.Subscript e (.Constant (.int i) j p1) pos) (tIx t i.toNat) :=
  PE.imp (pe_ix ix_tup he pe_int hs) fun σ H Q h => by
    refine hm σ H _ _ (fun v H1 q => ?_) h
    obtain ⟨ds, d, t1, e1, k⟩ := q
    obtain ⟨a, ys, rfl, h2, h3⟩ := t1.out
    obtain ⟨v', e3, t'⟩ := h3.get e1
    refine ⟨a, ys, i, v', rfl, rfl, SqT.of h2, ?_, k v' t'⟩
    have e4 : ((i.toNat : Nat) : Int) = i := Int.toNat_of_nonneg h0
    rw [← e4]
    exact atI_nat e3
/-- slot[i] of a list of data -/
def tLx (n : Nat) (ti : TE) : TE := fun σ H Q => ∃ l ds, σ[n]? = some (some (V.ref l)) ∧ ti σ H fun y H1 => ∃ i j d, y = .int i ∧ LstD H1 l ds ∧ ixN ds.length i = some j ∧ ds[j]? = some d ∧ ∀ z, Tp H1 d z → Q z H1
theorem pe_lx {n : Nat} {b : Expr} (he : PE X e (tVar n)) (hi : PE X b u) (hs : PlainIx b) (hm : ∀ σ H (Q Q' : VK), (∀ v H', Q v H' → Q' v H') → u σ H Q → u σ H Q') : PE X (.Subscript e b pos) (tLx n u) :=
  PE.imp (pe_ix ix_list he hi hs) fun σ H Q h => by
    obtain ⟨l, ds, e1, h⟩ := h
    refine ⟨_, e1, hm σ H _ _ (fun y H1 q => ?_) h⟩
    obtain ⟨i, j, d, rfl, hl, h1, h2, k⟩ := q
    obtain ⟨vs, h3, h4⟩ := hl
    obtain ⟨v, h5, h6⟩ := h4.get h2
    refine ⟨l, vs, i, v, rfl, rfl, SqL.of h3, ?_, k v h6⟩
    unfold atI
    rw [← h4.length, h1]
    exact h5
end
theorem mono_var {n : Nat} : ∀ σ H (Q Q' : VK), (∀ v H', Q v H' → Q' v H') → tVar n σ H Q → tVar n σ H Q' := fun σ H Q Q' k ⟨v, e, q⟩ => ⟨v, e, k _ _ q⟩
theorem mono_c {v : V} : ∀ σ H (Q Q' : VK), (∀ v H', Q v H' → Q' v H') → tC v σ H Q → tC v σ H Q' := fun σ H Q Q' k q => k _ _ q
theorem mono_neg {i : Int} : ∀ σ H (Q Q' : VK), (∀ v H', Q v H' → Q' v H') → tUn (rU fun i => .int (-i)) (tC (.int i)) σ H Q → tUn (rU fun i => .int (-i)) (tC (.int i)) σ H Q' := fun σ H Q Q' k ⟨j, e, q⟩ => ⟨j, e, k _ _ q⟩
theorem mono_lx {n : Nat} {u : TE} (hm : ∀ σ H (Q Q' : VK), (∀ v H', Q v H' → Q' v H') → u σ H Q → u σ H Q') : ∀ σ H (Q Q' : VK), (∀ v H', Q v H' → Q' v H') → tLx n u σ H Q → tLx n u σ H Q' := fun σ H Q Q' k ⟨l, ds, e, q⟩ =>
  ⟨l, ds, e, hm σ H _ _ (fun y H1 ⟨i, j, d, h1, h2, h3, h4, h5⟩ => ⟨i, j, d, h1, h2, h3, h4, fun z t => k _ _ (h5 z t)⟩) q⟩
theorem ixN_last {n : Nat} (h : 0 < n) : ixN n (-1) = some (n - 1) := by
  unfold ixN
  rw [if_neg (by decide), if_pos (by omega)]
  congr 1
  omega
theorem ixN_nat {n j : Nat} (h : j < n) : ixN n (j : Int) = some j := by
  unfold ixN
  rw [if_pos (by omega), if_pos (by omega)]
  simp
def spViews (C : Addr) : Sp := fun vs H Q _ => ∃ (p : Addr) (L : List Rec) (a b c d : Addr) (ts : List (Topic × Addr)) (t : Topic) (tv : V), vs = [.ref p, tv] ∧ TabF C H p L a b c d ts ∧ Tp H (topD t) tv ∧
  ∀ l (ws : List (Option Int)) H', L2.Same H H' → H l = none → LstD H' l (ws.map viewD) → (∀ w, w ∈ ws ↔ viewOf L t w) → ws.length ≤ 3001 → Q (.ref l) H'
theorem tp_ints {H : Hp} : ∀ {ks : List Int} {vs : List V}, TpAll H (ks.map PyData.int) vs ↔ vs = ks.map V.int
  | [], vs => by simp only [List.map_nil, TpAll]
  | k :: ks, vs => by
    simp only [List.map_cons, TpAll, Tp, tp_ints (ks := ks)]
    constructor
    · rintro ⟨x, r, h1, h2, h3⟩
      rw [h1, h2, h3]
    · intro h
      exact ⟨_, _, h, rfl, rfl⟩
theorem tpAll_views {H : Hp} (ks : List Int) {vs : List V} (h : TpAll H (ks.map PyData.int) vs) : TpAll H ((ks.map some).map viewD) vs := by
  rw [List.map_map]
  exact h
section
variable {P : Program} {w : World} {K : PySem.W.Frag} {mg : Str → Option Value} {base : Heap}
theorem scViews : FnScope ["self", "topic"] ["self", "topic"] (defScope sViews) := ⟨rfl, rfl, rfl, by decide +kernel, rfl, by decide +kernel, by decide +kernel⟩
theorem ok_views {f C : Addr} {fd : FuncData} (F : Fun K "views" "Table.views" sViews f fd) (T : Txt K mg C) : FnOk P w K mg base CX0 1 f fd ["self", "topic"] (spViews C) := by
  refine F.ok scViews (fun vs H Q E h => ?_) (fun cdv A outer s H vs Q E hr h => ?_)
  · obtain ⟨p, L, a, b, c, d, ts, t, tv, rfl, _⟩ := h
    rfl
  · obtain ⟨p, L, a, b, c, d, ts, t, tv, rfl, TF, tt, k⟩ := h
    have hu := hu_of hr
    refine ⟨_, pss_cons (ps_if (pt_sne (pr_ix (pr_var 1)) pr_str) (pss_one (ps_ret (pd_lst (pds_cons pd_non pds_nil)))) pss_nil)
      (pss_one (ps_ret (pe_op op_cat (pd_lst (pds_cons pd_non pds_nil)) (pe_dget2 hu (pe_fld (pv 0) rfl) (pr_ix (pr_var 1)) (pe_lst pa_nil) ⟨rfl, rfl, rfl, rfl⟩)))), ?_⟩
    have S : SlD H [none, some (topD t)] [some (.ref p), some tv] := ⟨⟨tv, rfl, tt⟩, trivial⟩
    refine ⟨_, topN t, _, S, ixC rfl (topD0 t), rfl, ?_⟩
    by_cases hp : t.isPlace = true
    · obtain ⟨n, pl, rfl⟩ : ∃ n pl, t = .place n pl := by
        cases t with
        | place n pl => exact ⟨n, pl, rfl⟩
        | _ => cases hp
      refine iteF' (by dsimp only [topN]; decide +kernel) ?_
      refine ⟨_, _, S, rfl, ble1 rfl, fun l1 H1 s1 hl1 hd1 => ?_⟩
      have TF1 := TF.mono s1
      obtain ⟨dx, hob⟩ := TF1.ob
      obtain ⟨kvs, hk1, hk2⟩ := TF1.sn
      refine ⟨_, rfl, p, C, dx, _, _, rfl, hob, T.cl, T.nSnap, flds_snap a b c d, d, rfl, .inl ⟨kvs, .inl hk1⟩, _, _, S.mono s1.t, ixC (x := dVar 1) rfl (topD1 (.place n pl)), fun v2 t2 => ?_⟩
      rw [t2.int_of]
      refine ⟨(by show 0 ≤ sizeLine; decide), fun q hq => ?_⟩
      have s2 := same_upd (o := .lst []) hq
      refine ⟨_, DGet.k (k := Sum.inl n) (s2 _ _ hk1), ?_⟩
      obtain ⟨us, hu1, hu2⟩ := hd1.mono s2
      have hsn := hk2 n
      cases ev : valV kvs (Sum.inl n : L2.Key) with
      | none =>
        rw [ev] at hsn
        refine ⟨l1, q, us, [], rfl, rfl, hu1, upd_same, ?_, fun p' hp' => ?_⟩
        · rw [← hu2.length]
          exact Nat.le_of_lt (small1000 (ble1 rfl))
        · have s3 := same_upd (o := .lst (us ++ [])) hp'
          refine k p' [none] _ (s1.trans (s2.trans s3)) ((s1.trans s2).free hp') ⟨_, upd_same, ?_⟩ ?_ ?_
          · rw [List.append_nil]
            exact hu2.mono s3.t
          · intro w
            constructor
            · intro hw
              exact .inl (List.mem_singleton.mp hw)
            · rintro (hw | ⟨n', p', k', e1, e2, e3⟩)
              · rw [hw]; exact List.mem_cons_self
              · injection e1 with e4 e5
                rw [← e4] at e3
                exact (hsn k' e3).elim
          · exact (by decide : 1 ≤ 3001)
      | some v3 =>
        rw [ev] at hsn
        obtain ⟨l3, ks, rfl, hl3, hnd, hks, hkl⟩ := hsn
        obtain ⟨zs, hz1, hz2⟩ := hl3.mono s2
        refine ⟨l1, l3, us, zs, rfl, rfl, hu1, hz1, ?_, fun p' hp' => ?_⟩
        · rw [← hu2.length, ← hz2.length, List.length_map]
          show 1 + ks.length ≤ sizeLine
          rw [sizeLine_eq]
          omega
        · have s3 := same_upd (o := .lst (us ++ zs)) hp'
          refine k p' (none :: ks.map some) _ (s1.trans (s2.trans s3)) ((s1.trans s2).free hp') ⟨_, upd_same, ?_⟩ ?_ ?_
          · rw [List.map_cons]
            exact (hu2.append (ds := [.none]) (tpAll_views ks hz2)).mono s3.t
          · intro w
            rw [List.mem_cons]
            constructor
            · rintro (hw | hw)
              · exact .inl hw
              · obtain ⟨kk, h1, rfl⟩ := List.mem_map.mp hw
                exact .inr ⟨n, pl, kk, rfl, rfl, (hks kk).mp h1⟩
            · rintro (hw | ⟨n', p', k', e1, e2, e3⟩)
              · exact .inl hw
              · injection e1 with e4 e5
                rw [← e4] at e3
                exact .inr (List.mem_map.mpr ⟨k', (hks k').mpr e3, e2.symm⟩)
          · rw [List.length_cons, List.length_map]
            omega
    · refine iteT' ?_ ?_
      · cases t with
        | place n pl => exact absurd rfl hp
        | _ => dsimp only [topN]; decide +kernel
      · refine ⟨_, _, S, rfl, ble1 rfl, fun l1 H1 s1 hl1 hd1 => k l1 [none] H1 s1 hl1 hd1 (fun w => ?_) (by decide)⟩
        constructor
        · intro hw
          exact .inl (List.mem_singleton.mp hw)
        · rintro (hw | ⟨n', p', k', e1, _⟩)
          · rw [hw]; exact List.mem_cons_self
          · rw [e1] at hp
            exact absurd rfl hp
end
end K13
/-! ## K13W -/
namespace K13
open PySem L2
theorem filter_take {l : List (Int × Vl)} (h : l.Pairwise fun a b => a.1 ≤ b.1) (w : Option Int) : (l.filter fun g => cnt w g.1) = l.take (l.filter fun g => cnt w g.1).length := by
  induction l with
  | nil => rfl
  | cons x l ih =>
    have h' := List.pairwise_cons.mp h
    by_cases c : cnt w x.1 = true
    · rw [List.filter_cons, if_pos c, List.length_cons, List.take_succ_cons, ← ih h'.2]
    · have e : (l.filter fun g => cnt w g.1) = [] := by
        rw [List.filter_eq_nil_iff]
        intro y hy
        have := cnt_up (h'.1 y hy) (by simpa using c)
        simp [this]
      rw [List.filter_cons, if_neg c, e]
      rfl
theorem rowsC_take {L : List Rec} (ha : Asc L) (t : Topic) (w : Option Int) : rowsC L t w = (rows L t).take (rowsC L t w).length := filter_take (rows_sorted ha t) w
theorem rowsC_le (L : List Rec) (t : Topic) (w : Option Int) : (rowsC L t w).length ≤ (rows L t).length := List.length_filter_le _ _
/-- the last row that counts stands at its place -/
theorem rowsC_last {L : List Rec} (ha : Asc L) {t : Topic} {w : Option Int} (h : 0 < (rowsC L t w).length) : ∃ g, (rowsC L t w).getLast? = some g ∧ (rows L t)[(rowsC L t w).length - 1]? = some g := by
  cases e : (rowsC L t w).getLast? with
  | none =>
    rw [List.getLast?_eq_none_iff] at e
    rw [e] at h
    cases h
  | some g =>
    refine ⟨g, rfl, ?_⟩
    rw [List.getLast?_eq_getElem?] at e
    have q := rowsC_take ha t w
    have e2 : ((rows L t).take (rowsC L t w).length)[(rowsC L t w).length - 1]? = some g := by rw [← q]; exact e
    rw [List.getElem?_take] at e2
    rw [if_pos (by omega)] at e2
    exact e2
theorem effs_len (r : Rec) : (eff r).length ≤ 3 := by
  have := effL_len r
  unfold eff
  rw [List.length_cons]
  omega
theorem rows_len (L : List Rec) (t : Topic) : (rows L t).length ≤ 3 * L.length := by
  induction L with
  | nil => exact Nat.le_refl _
  | cons r L ih =>
    have h1 : (row1 r t).length ≤ 3 := Nat.le_trans (List.length_filterMap_le _ _) (effs_len r)
    rw [rows_cons, List.length_append, List.length_cons]
    omega
theorem isN_vl (v : Vl) : isN (vlD v) = decide (v = .non) := by
  cases v <;> first | rfl | simp [vlD, isN]
/-- the orders that the topic keeps -/
structure LiveP (L : List Rec) (t : Topic) (os : List Int) : Prop where
  gone : ∀ n g o, t = .gone n → (rows L (.gone n)).getLast? = some g → oldest L n = some o → o < g.1 → g.1 ∈ os
  row : t.asked = true → ∀ w g, viewOf L t w → (rowsC L t w).getLast? = some g → hidden L t g.1 w = false → ((rowsC L t w).length ≠ 1 ∨ g.2 ≠ .non) → g.1 ∈ os
def spLord (C : Addr) : Sp := fun vs H Q _ => ∃ (p : Addr) (L : List Rec) (a b c d : Addr) (ts : List (Topic × Addr)) (t : Topic) (tv : V), vs = [.ref p, tv] ∧ TabF C H p L a b c d ts ∧ Tp H (topD t) tv ∧ t ∈ ts.map (·.1) ∧ Asc L ∧ L.length ≤ 1000 ∧
  ∀ l (os : List Int) H', L2.Same H H' → H l = none → LstD H' l (os.map PyData.int) → os.length ≤ 3001 → LiveP L t os → Q (.ref l) H'
/-- the test at a view: index > 0 or index == 0 and rows[0][1] is not None -/
theorem idx_test {σ : St} {H : Hp} {lr : Addr} {rs : List (Int × Vl)} {g0 : Int × Vl} {nn : Nat} (e6 : σ[6]? = some (some (V.int (nn - 1)))) (e2 : σ[2]? = some (some (V.ref lr))) (hl : LstD H lr (rs.map rowD)) (h0 : rs[0]? = some g0) {Q : Bool → Hp → Prop}
    (q : Q (decide (2 ≤ nn) || (decide (nn = 1) && !decide (g0.2 = .non))) H) :
    tOr (tTest (tOp (rI0 fun i j => .bl (decide (j < i))) (tVar 6) (tC (.int 0)))) (tAnd (tTest (tOp rEq (tVar 6) (tC (.int 0)))) (tB (tNotN (tIx (tLx 2 (tC (.int 0))) 1)))) σ H Q := by
  refine ⟨_, e6, _, _, rfl, rfl, _, rfl, ?_⟩
  by_cases h2 : 2 ≤ nn
  · refine iteT' (decide_eq_true (by omega)) ?_
    rw [decide_eq_true h2] at q
    exact q
  · refine iteF' (decide_eq_false (by omega)) ?_
    rw [decide_eq_false h2, Bool.false_or] at q
    refine ⟨_, e6, rfl, _, rfl, ?_⟩
    by_cases h1 : nn = 1
    · subst h1
      refine iteT' (by decide) ?_
      rw [decide_eq_true rfl, Bool.true_and] at q
      refine ⟨lr, _, e2, 0, 0, rowD g0, rfl, hl, ?_, ?_, fun z tz => ⟨_, _, tz, rfl, fun z2 tz2 => ⟨_, rfl, ?_⟩⟩⟩
      · rw [List.length_map]
        exact ixN_nat (j := 0) (List.getElem?_eq_some_iff.mp h0).1
      · rw [List.getElem?_map, h0]
        rfl
      · rw [isN_eq tz2, isN_vl]
        exact q
    · refine iteF' (decide_eq_false (fun z => h1 (by injection z with z; omega))) ?_
      rw [decide_eq_false h1, Bool.false_and] at q
      exact q
section
variable {P : Program} {w : World} {K : PySem.W.Frag} {mg : Str → Option Value} {base : Heap}
theorem scLord : FnScope ["self", "topic", "rows", "last", "live", "view", "index"] ["self", "topic"] (defScope sLord) := ⟨rfl, rfl, rfl, by decide +kernel, rfl, by decide +kernel, by decide +kernel⟩
theorem ok_lord {f C fV fL fH : Addr} {fd fdV fdL fdH : FuncData} (F : Fun K "live_orders" "Table.live_orders" sLord f fd) (T : Txt K mg C)
    (FV : Fun K "views" "Table.views" sViews fV fdV) (bV : Binds K fdV ["self", "topic"] []) (mV : Meth K C "views" fV)
    (FL : Fun K "last_index" "Table.last_index" sLast fL fdL) (bL : Binds K fdL ["self", "topic", "view"] []) (mL : Meth K C "last_index" fL)
    (FH : Fun K "is_hidden" "Table.is_hidden" sHid fH fdH) (bH : Binds K fdH ["self", "topic", "order", "view"] []) (mH : Meth K C "is_hidden" fH) :
    FnOk P w K mg base CX0 2 f fd ["self", "topic"] (spLord C) := by
  have GV : FnOk P w K mg base CX0 1 fV fdV ["self", "topic"] (spViews C) := ok_views FV T
  have GL : FnOk P w K mg base CX0 1 fL fdL ["self", "topic", "view"] (spLast C) := ok_last FL T
  have GH : FnOk P w K mg base CX0 1 fH fdH ["self", "topic", "order", "view"] (spHid C) := ok_hid FH T
  refine F.ok scLord (fun vs H Q E h => ?_) (fun cdv A outer s H vs Q E hr h => ?_)
  · obtain ⟨p, L, a, b, c, d, ts, t, tv, rfl, _⟩ := h
    rfl
  · obtain ⟨p, L, a, b, c, d, ts, t, tv, rfl, TF, tt, hmem, hA, hLen, k⟩ := h
    have hu := hu_of hr
    have nd := scLord.nd
    refine ⟨_, pss_cons (ps_set (i := 2) nd rfl (.inl rfl) (pe_dget hu (pe_fld (pv 0) rfl) (pr_var 1) (fun _ _ => rfl)))
      (pss_cons (ps_set (i := 3) nd rfl (.inl rfl) (pe_tix (pe_lx (pv 2) (pe_un un_neg pe_int) (fun _ _ => rfl) mono_neg) (hm := mono_lx mono_neg)))
      (pss_cons (ps_if (pt_seq (pr_ix (pr_var 1)) pr_str) (pss_one (ps_ret (pd_lst (pds_cons (pd_var 3) pds_nil)))) pss_nil)
      (pss_cons (ps_if (pt_seq (pr_ix (pr_var 1)) pr_str)
        (pss_cons (ps_if (pt_cmpR op_lt (pe_dget hu (pe_fld (pv 0) rfl) (pr_ix (pr_var 1)) (fun _ _ => rfl)) (pv 3) (nomark _)) (pss_one (ps_ret (pd_lst (pds_cons (pd_var 3) pds_nil)))) pss_nil)
        (pss_one (ps_ret (pd_lst pds_nil)))) pss_nil)
      (pss_cons (ps_set (i := 4) nd rfl (.inl rfl) (pd_lst pds_nil))
      (pss_cons (ps_for PassesOwn.never rfl (pi_list (pe_meth (pv 0) T.cl mV GV hr bV .nil pass0 (pa_cons (pv 1) pa_nil))) (pg_name (i := 5) nd rfl (.inl rfl))
        (pss_cons (ps_set (i := 6) nd rfl (.inl rfl) (pe_meth (pv 0) T.cl mL GL hr bL .nil pass0 (pa_cons (pv 1) (pa_cons (pv 5) pa_nil))))
        (pss_one (ps_if (pw_or (pt_cmpR op_gt (pv 6) pe_int (nomark _)) (pw_or1 (pw_and (pt_cmpR op_eq (pv 6) pe_int (nomark _)) (pw_and1 (pt_cmp (pc_notN (pe_tix (pe_lx (pv 2) pe_int (fun _ _ => rfl) mono_c) (hm := mono_lx mono_c)))))).pt)).pt
          (pss_one (ps_if (pt_not (pt_val (pe_meth (pv 0) T.cl mH GH hr bH .nil pass0 (pa_cons (pv 1) (pa_cons (pe_tix (pe_lx (pv 2) (pv 6) (fun _ _ => rfl) mono_var) (hm := mono_lx mono_var)) (pa_cons (pv 5) pa_nil))))))
            (pss_one (ps_expr (pe_bm PySem.F.plainAttrs_list PySem.F.slot_list_append PySem.F.type_list_append mt_append (pv 4) (pa_cons (pe_tix (pe_lx (pv 2) (pv 6) (fun _ _ => rfl) mono_var) (hm := mono_lx mono_var)) pa_nil)))) pss_nil)) pss_nil))))
      (pss_one (ps_ret (pv 4)))))))), ?_⟩
    -- rows = self.rows[topic]
    obtain ⟨dx, hob⟩ := TF.ob
    obtain ⟨lr, hz⟩ : ∃ lr, (t, lr) ∈ ts := by
      obtain ⟨⟨t', lr⟩, hz, rfl⟩ := List.mem_map.mp hmem
      exact ⟨lr, hz⟩
    have hrn : rows L t ≠ [] := (TF.rw.ls _ hz).2
    have hlr : LstD H lr ((rows L t).map rowD) := (TF.rw.ls _ hz).1
    have hrl : 0 < (rows L t).length := List.length_pos_iff.mpr hrn
    have S : SlD H [none, some (topD t)] [some (.ref p), some tv, none, none, none, none, none] := ⟨⟨tv, rfl, tt⟩, trivial⟩
    obtain ⟨kb, e0, hkb⟩ := tp_top.mp tt
    refine ⟨_, rfl, p, C, dx, _, _, rfl, hob, T.cl, T.nRows, flds_rows a b c d, _, _, S, rfl, fun v1 t1 => ?_⟩
    obtain ⟨kb1, rfl, hk1⟩ := tp_top.mp t1
    refine ⟨b, _, rfl, .inr ⟨_, topK t, kb1, TF.rw.dc, rfl, hk1, (valTs_in TF.rw.nd hz).symm⟩, ?_⟩
    -- last = rows[-1][0]
    obtain ⟨gl, hgl⟩ : ∃ g, (rows L t).getLast? = some g := by
      cases e : (rows L t).getLast? with
      | none => exact absurd (List.getLast?_eq_none_iff.mp e) hrn
      | some g => exact ⟨g, rfl⟩
    have hgl2 : (rows L t)[(rows L t).length - 1]? = some gl := by rw [← List.getLast?_eq_getElem?]; exact hgl
    refine ⟨lr, _, rfl, _, rfl, -1, (rows L t).length - 1, rowD gl, rfl, hlr, ?_, ?_, fun z tz => ?_⟩
    · rw [List.length_map]
      exact ixN_last hrl
    · rw [List.getElem?_map, hgl2]
      rfl
    refine ⟨_, _, tz, rfl, fun z2 tz2 => ?_⟩
    rw [tz2.int_of]
    have S3 : SlD H [none, some (topD t), none, some (.int gl.1)] [some (.ref p), some tv, some (.ref lr), some (.int gl.1), none, none, none] := ⟨⟨tv, rfl, tt⟩, ⟨_, rfl, Tp.int⟩, trivial⟩
    refine ⟨_, topN t, _, S3, ixC rfl (topD0 t), rfl, ?_⟩
    by_cases hH : t.isHost = true
    · refine iteT' (by cases t <;> first | (cases hH; done) | (dsimp only [topN]; decide +kernel)) ?_
      refine ⟨_, _, S3, rfl, ble1 rfl, fun l H1 s1 hl1 hd1 => k l [gl.1] H1 s1 hl1 hd1 (by show 1 ≤ 3001; decide) ⟨fun n g o e => ?_, fun e => ?_⟩⟩
      · rw [e] at hH
        cases hH
      · cases t <;> cases hH
        cases e
    refine iteF' (by cases t <;> first | exact absurd rfl hH | (dsimp only [topN]; decide +kernel)) ?_
    refine ⟨_, topN t, _, S3, ixC rfl (topD0 t), rfl, ?_⟩
    by_cases hG : t.isGone = true
    · obtain ⟨n, rfl⟩ : ∃ n, t = .gone n := by
        cases t with
        | gone n => exact ⟨n, rfl⟩
        | _ => cases hG
      refine iteT' (by dsimp only [topN]; decide +kernel) ?_
      obtain ⟨kvs, hk2, hk3⟩ := TF.old
      obtain ⟨r, hr1, hr2, hr3⟩ := mem_rows.mp (List.mem_of_getLast? hgl)
      obtain ⟨oo, ho1, ho2⟩ := oldest_le hA hr1 (touches_of hr3 rfl)
      refine ⟨_, rfl, p, C, dx, _, _, rfl, hob, T.cl, T.nOld, flds_old a b c d, _, _, S3, ixC (x := dVar 1) rfl (topD1 (.gone n)), fun v4 t4 => ?_⟩
      rw [t4.int_of]
      refine ⟨c, .int oo, rfl, ?_, _, rfl, oo, gl.1, rfl, rfl, _, rfl, ?_⟩
      · have := DGet.k (k := Sum.inl n) hk2
        rw [hk3 n, show oldest L n = some oo from ho1] at this
        exact this
      by_cases hlt : oo < gl.1
      · refine iteT' (decide_eq_true hlt) ?_
        refine ⟨_, _, S3, rfl, ble1 rfl, fun l H1 s1 hl1 hd1 => k l [gl.1] H1 s1 hl1 hd1 (by show 1 ≤ 3001; decide) ⟨fun n' g o e h1 _ _ => ?_, fun e => by cases e⟩⟩
        cases e
        rw [hgl] at h1
        cases h1
        exact List.mem_cons_self
      · refine iteF' (decide_eq_false hlt) ?_
        refine ⟨_, _, S3, rfl, ble1 rfl, fun l H1 s1 hl1 hd1 => k l [] H1 s1 hl1 hd1 (by decide) ⟨fun n' g o e h1 h2 h3 => ?_, fun e => by cases e⟩⟩
        cases e
        rw [hgl] at h1
        cases h1
        rw [show oldest L n = some oo from ho1] at h2
        cases h2
        exact absurd h3 hlt
    refine iteF' (by cases t <;> first | exact absurd rfl hG | (dsimp only [topN]; decide +kernel)) ?_
    -- live = []
    refine ⟨_, _, S3, rfl, ble1 rfl, fun l4 H1 s1 hl4 hd4 => ?_⟩
    -- for view in self.views(topic)
    refine ⟨_, rfl, p, dx, _, rfl, s1 _ _ hob, flds_no a b c d "views" (by decide +kernel), _, rfl, p, L, a, b, c, d, ts, t, tv, rfl, TF.mono s1, tt.mono s1.t, fun l5 ws H2 s2 hl5 hd5 hws hwl => ⟨l5, rfl, ?_⟩⟩
    obtain ⟨vs4, hv4, _⟩ := id hd4
    have n54 : l5 ∉ [l4] := fun z => by
      rw [List.mem_singleton.mp z, hv4] at hl5
      cases hl5
    obtain ⟨g0, hg0⟩ : ∃ g, (rows L t)[0]? = some g := ⟨_, List.getElem?_eq_getElem hrl⟩
    refine for_lstD hd5 (fun i σ' H' => ∃ (os : List Int) (x5 x6 : Option V), Bar [l4] H2 H' ∧ LstD H' l4 (os.map PyData.int) ∧ σ' = [some (.ref p), some tv, some (.ref lr), some (.int gl.1), some (.ref l4), x5, x6] ∧ os.length ≤ i ∧
        ∀ w ∈ ws.take i, ∀ g, (rowsC L t w).getLast? = some g → hidden L t g.1 w = false → ((rowsC L t w).length ≠ 1 ∨ g.2 ≠ .non) → g.1 ∈ os)
      ⟨[], none, none, Bar.refl _ _, hd4.mono s2, rfl, Nat.le_refl _, fun w hw => by simp at hw⟩ (fun i σ' H' ⟨os, x5, x6, hb, _⟩ => ⟨fun o e => hb.keep _ _ e n54, hb.t⟩) ?_ ?_
    · rintro i dv v σ' H' hdi t1 ⟨os, x5, x6, hb, ho, rfl, hoi, hall⟩
      rw [List.getElem?_map] at hdi
      cases hw0 : ws[i]? with
      | none => rw [hw0] at hdi; cases hdi
      | some w0 =>
        rw [hw0] at hdi
        cases hdi
        rw [tp_view t1]
        have hiw : i < ws.length := (List.getElem?_eq_some_iff.mp hw0).1
        have sH : L2.Same H H' := hb.same (s1.trans s2) fun x hx => by rw [List.mem_singleton.mp hx]; exact hl4
        have tk : ws.take (i + 1) = ws.take i ++ [w0] := by
          rw [List.take_add_one, hw0]
          rfl
        -- index = self.last_index(topic, view)
        refine ⟨_, rfl, p, dx, _, rfl, sH _ _ hob, flds_no a b c d "last_index" (by decide +kernel), _, rfl, _, rfl, p, L, b, ts, t, tv, w0, rfl, (TF.mono sH).r, tt.mono sH.t, ?_, fun H3 s3 => ?_⟩
        · have := rows_len L t
          rw [sizeLine_eq]
          omega
        have sH3 := sH.trans s3
        have TF3 := TF.mono sH3
        have hlr3 := hlr.mono sH3
        have hb3 := hb.trans (s3.bar [l4])
        refine idx_test rfl rfl hlr3 hg0 ?_
        -- what a turn that stores nothing gives
        have stay : ∀ (H4 : Hp) (x6' : Option V), L2.Same H3 H4 → (∀ g, (rowsC L t w0).getLast? = some g → hidden L t g.1 w0 = false → ((rowsC L t w0).length ≠ 1 ∨ g.2 ≠ .non) → False) → ∃ (os : List Int) (x5 x6 : Option V), Bar [l4] H2 H4 ∧ LstD H4 l4 (os.map PyData.int) ∧ [some (V.ref p), some tv, some (V.ref lr), some (V.int gl.1), some (V.ref l4), some (viewV w0), x6'] = [some (.ref p), some tv, some (.ref lr), some (.int gl.1), some (.ref l4), x5, x6] ∧ os.length ≤ i + 1 ∧
            ∀ w ∈ ws.take (i + 1), ∀ g, (rowsC L t w).getLast? = some g → hidden L t g.1 w = false → ((rowsC L t w).length ≠ 1 ∨ g.2 ≠ .non) → g.1 ∈ os := fun H4 x6' s4 no => by
          refine ⟨os, _, _, hb3.trans (s4.bar [l4]), ho.mono (s3.trans s4), rfl, by omega, fun w hw g h1 h2 h3 => ?_⟩
          rw [tk] at hw
          rcases List.mem_append.mp hw with hw | hw
          · exact hall w hw g h1 h2 h3
          · rw [List.mem_singleton.mp hw] at h1 h2 h3
            exact (no g h1 h2 h3).elim
        by_cases hc : (decide (2 ≤ (rowsC L t w0).length) || (decide ((rowsC L t w0).length = 1) && !decide (g0.2 = .non))) = true
        · refine iteT' hc ?_
          have hpos : 0 < (rowsC L t w0).length := by
            rw [Bool.or_eq_true, Bool.and_eq_true, decide_eq_true_eq, decide_eq_true_eq] at hc
            rcases hc with z | z
            · omega
            · omega
          obtain ⟨g, hg1, hg2⟩ := rowsC_last hA hpos
          have hle := rowsC_le L t w0
          have place : ixN ((rows L t).map rowD).length ((((rowsC L t w0).length : Nat) : Int) - 1) = some ((rowsC L t w0).length - 1) := by
            rw [List.length_map, show ((((rowsC L t w0).length : Nat) : Int) - 1) = (((rowsC L t w0).length - 1 : Nat) : Int) by omega]
            exact ixN_nat (by omega)
          have item : ((rows L t).map rowD)[(rowsC L t w0).length - 1]? = some (rowD g) := by
            rw [List.getElem?_map, hg2]
            rfl
          -- if not self.is_hidden(topic, rows[index][0], view)
          refine ⟨_, rfl, p, dx, _, rfl, sH3 _ _ hob, flds_no a b c d "is_hidden" (by decide +kernel), _, rfl, lr, _, rfl, _, rfl, _, _, _, rfl, hlr3, place, item, fun z tz => ⟨_, _, tz, rfl, fun z2 tz2 => ?_⟩⟩
          rw [tz2.int_of]
          refine ⟨_, rfl, p, L, b, ts, t, tv, g.1, w0, rfl, TF3.r, tt.mono sH3.t, fun H4 s4 => ⟨_, rfl, ?_⟩⟩
          cases hh : hidden L t g.1 w0 with
          | true =>
            refine iteF' rfl ?_
            refine stay H4 _ s4 fun g' h1 h2 h3 => ?_
            rw [hg1] at h1
            cases h1
            rw [hh] at h2
            cases h2
          | false =>
            refine iteT' rfl ?_
            obtain ⟨us, hu1, hu2⟩ := ho.mono (s3.trans s4)
            refine ⟨_, rfl, .inl ⟨rfl, _, .inl (.inl hu1)⟩, lr, _, rfl, _, rfl, _, _, _, rfl, hlr3.mono s4, place, item, fun z tz => ⟨_, _, tz, rfl, fun z2 tz2 => ?_⟩⟩
            rw [tz2.int_of]
            refine ⟨l4, us, _, rfl, rfl, hu1, ?_, os ++ [g.1], _, _, (hb3.trans (s4.bar [l4])).trans (Bar.lst hu1), ⟨_, upd_same, ?_⟩, rfl, ?_, fun w hw g' h1 h2 h3 => ?_⟩
            · rw [← hu2.length, List.length_map, sizeLine_eq]
              omega
            · rw [List.map_append]
              exact (hu2.append (TpAll.one Tp.int)).mono (Bar.lst hu1).t
            · rw [List.length_append]
              exact Nat.succ_le_succ hoi
            · rw [tk] at hw
              rcases List.mem_append.mp hw with hw | hw
              · exact List.mem_append_left _ (hall w hw g' h1 h2 h3)
              · rw [List.mem_singleton.mp hw, hg1] at h1
                cases h1
                exact List.mem_append_right _ List.mem_cons_self
        · refine iteF' (by simpa using hc) ?_
          refine stay H3 _ (L2.Same.refl _) fun g h1 h2 h3 => hc ?_
          rw [Bool.or_eq_true, Bool.and_eq_true, decide_eq_true_eq, decide_eq_true_eq]
          have hpos : 0 < (rowsC L t w0).length := by
            rw [List.length_pos_iff]
            intro e
            rw [e] at h1
            cases h1
          by_cases h1' : (rowsC L t w0).length = 1
          · refine .inr ⟨h1', ?_⟩
            obtain ⟨g', hg1, hg2⟩ := rowsC_last hA hpos
            rw [hg1] at h1
            cases h1
            rw [h1'] at hg2
            rw [hg0] at hg2
            cases hg2
            rcases h3 with z | z
            · exact absurd h1' z
            · rw [decide_eq_false z]
              rfl
          · exact .inl (by omega)
    · rintro σ' H' ⟨os, x5, x6, hb, ho, rfl, hoi, hall⟩
      rw [List.length_map, List.take_length] at hall
      refine ⟨_, rfl, k l4 os H' (hb.same (s1.trans s2) fun x hx => by rw [List.mem_singleton.mp hx]; exact hl4) hl4 ho (by rw [List.length_map] at hoi; omega) ⟨fun n g o e => ?_, fun _ w g hv => hall w ((hws w).mpr hv) g⟩⟩
      rw [e] at hG
      exact absurd rfl hG
end
end K13
/-! ## K13X -/
namespace K13
open PySem L2
abbrev sLive : Stmt := inClass (top 12) 5
/-- the dict of the rows is locked while it is walked -/
theorem lock_ne {H : Hp} {b x : Addr} {u o : HO} {od : Obj} (hb : H b = some u) (h : H x = some o) (ne : o ≠ u) : (upd H b (.frz od u)) x = some o := by
  rw [upd_ne (fun e => by rw [e, hb] at h; exact ne (Option.some.inj h).symm)]
  exact h
theorem lock_tups {H : Hp} {b : Addr} {kvs : List (List L2.Key × V)} {od : Obj} (hb : H b = some (.dT kvs)) : Tups H (upd H b (.frz od (.dT kvs))) := fun x xs e => lock_ne hb e (by intro z; cases z)
theorem lock_lst {H : Hp} {b : Addr} {kvs : List (List L2.Key × V)} {od : Obj} (hb : H b = some (.dT kvs)) {l : Addr} {ds : List PyData} (h : LstD H l ds) : LstD (upd H b (.frz od (.dT kvs))) l ds := by
  obtain ⟨vs, h1, h2⟩ := h
  exact ⟨vs, lock_ne hb h1 (by intro z; cases z), h2.mono (lock_tups hb)⟩
theorem RowsAt.lock {H : Hp} {b : Addr} {L : List Rec} {ts : List (Topic × Addr)} {od : Obj} (R : RowsAt H b L ts) (hb : H b = some (.dT (TsV ts))) : RowsAt (upd H b (.frz od (.dT (TsV ts)))) b L ts :=
  ⟨.inr ⟨od, upd_same⟩, R.nd, fun z hz => ⟨lock_lst hb (R.ls z hz).1, (R.ls z hz).2⟩, R.all, R.few⟩
theorem TabF.lock {C : Addr} {H : Hp} {p : Addr} {L : List Rec} {a b c d : Addr} {ts : List (Topic × Addr)} {od : Obj} (T : TabF C H p L a b c d ts) (hb : H b = some (.dT (TsV ts))) : TabF C (upd H b (.frz od (.dT (TsV ts)))) p L a b c d ts := by
  obtain ⟨dx, h⟩ := T.ob
  refine ⟨⟨dx, lock_ne hb h (by intro z; cases z)⟩, lock_lst hb T.rc, T.rw.lock hb, ?_, ?_⟩
  · obtain ⟨kvs, h1, h2⟩ := T.old
    exact ⟨kvs, lock_ne hb h1 (by intro z; cases z), h2⟩
  · obtain ⟨kvs, h1, h2⟩ := T.sn
    refine ⟨kvs, lock_ne hb h1 (by intro z; cases z), fun n => ?_⟩
    have := h2 n
    cases e : valV kvs (Sum.inl n : L2.Key) with
    | none => rw [e] at this; exact this
    | some v =>
      rw [e] at this
      obtain ⟨l, ks, e1, h3, h4⟩ := this
      exact ⟨l, ks, e1, lock_lst hb h3, h4⟩
theorem bar_unlock {S : List Addr} {H H' : Hp} {b : Addr} {kvs : List (List L2.Key × V)} {od : Obj} (hb : H b = some (.dT kvs)) (B : Bar S (upd H b (.frz od (.dT kvs))) H') : Bar S H (upd H' b (.dT kvs)) := by
  refine ⟨fun x o e n => ?_, fun x xs e => ?_, fun x e => ?_⟩
  · by_cases z : x = b
    · subst z
      rw [hb] at e
      rw [upd_same]
      exact e
    · rw [upd_ne z]
      exact B.keep x o (by rw [upd_ne z]; exact e) n
  · have z : x ≠ b := fun z => by rw [z, hb] at e; cases e
    rw [upd_ne z]
    exact B.t x xs (by rw [upd_ne z]; exact e)
  · have z : x ≠ b := fun z => by rw [z, upd_same] at e; cases e
    rw [upd_ne z] at e
    have := B.free x e
    rw [upd_ne z] at this
    exact this
def inK (kvs : List (L2.Key × V)) (o : Int) : Bool := (valV kvs (Sum.inl o : L2.Key)).isSome
theorem inK_put {kvs : List (L2.Key × V)} {o : Int} {v : V} : inK (putK kvs (Sum.inl o : L2.Key) v) o = true := by
  unfold inK
  rw [valV_put, if_pos rfl]
  rfl
theorem inK_keep {kvs : List (L2.Key × V)} {o k : Int} {v : V} (h : inK kvs o = true) : inK (putK kvs (Sum.inl k : L2.Key) v) o = true := by
  unfold inK at h ⊢
  rw [valV_put]
  by_cases e : (Sum.inl o : L2.Key) = Sum.inl k
  · rw [if_pos e]
    rfl
  · rw [if_neg e]
    exact h
theorem Bar.dk {H : Hp} {l : Addr} {kvs : List (L2.Key × V)} {o : HO} (h : H l = some (.dK kvs)) : Bar [l] H (upd H l o) :=
  ⟨fun b u e n => by rw [upd_ne (fun z => n (by rw [z]; exact List.mem_cons_self))]; exact e, fun b ys e => by rw [upd_ne (fun z => by rw [z, h] at e; cases e)]; exact e,
    fun b e => by
      by_cases z : b = l
      · rw [z, upd_same] at e; cases e
      · rw [upd_ne z] at e; exact e⟩
def spLive (C : Addr) : Sp := fun vs H Q _ => ∃ (p : Addr) (L : List Rec) (a b c d : Addr) (ts : List (Topic × Addr)), vs = [.ref p] ∧ TabF C H p L a b c d ts ∧ H b = some (.dT (TsV ts)) ∧ Asc L ∧ L.length ≤ 1000 ∧
  ∀ l (q : Rec → Bool) H', L2.Same H H' → H l = none → LstD H' l ((L.filter q).map recD) → Keeps L q → Q (.ref l) H'
section
variable {P : Program} {w : World} {K : PySem.W.Frag} {mg : Str → Option Value} {base : Heap}
theorem scLive : FnScope ["self", "orders", "topic", "order", "record"] ["self"] (defScope sLive) := ⟨rfl, rfl, rfl, by decide +kernel, rfl, by decide +kernel, by decide +kernel⟩
theorem ok_live {f C fO : Addr} {fd fdO : FuncData} (F : Fun K "live" "Table.live" sLive f fd) (T : Txt K mg C)
    (GO : FnOk P w K mg base CX0 2 fO fdO ["self", "topic"] (spLord C)) (bO : Binds K fdO ["self", "topic"] []) (mO : Meth K C "live_orders" fO) :
    FnOk P w K mg base CX0 3 f fd ["self"] (spLive C) := by
  refine F.ok scLive (fun vs H Q E h => ?_) (fun cdv A outer s H vs Q E hr h => ?_)
  · obtain ⟨p, L, a, b, c, d, ts, rfl, _⟩ := h
    rfl
  · obtain ⟨p, L, a, b, c, d, ts, rfl, TF, hb, hA, hLen, k⟩ := h
    have hu := hu_of hr
    have nd := scLive.nd
    refine ⟨_, pss_cons (ps_set (i := 1) nd rfl (.inr rfl) pe_dnewK)
      (pss_cons (ps_lock (ps_for PassesOwn.never rfl (pi_keys (pe_fld (pv 0) rfl)) (pg_name (i := 2) nd rfl (.inl rfl))
        (pss_one (ps_for PassesOwn.never rfl (pi_list (pe_meth (pv 0) T.cl mO GO hr bO .nil pass0 (pa_cons (pv 2) pa_nil))) (pg_name (i := 3) nd rfl (.inl rfl))
          (pss_one (ps_dput hu (pv 1) (pv 3) pe_bl rfl))))))
      (pss_one (ps_ret (pe_lc (own := [("record", 4)]) (g := gName 4) rfl nd (pi_list (pe_fld (pv 0) rfl)) (blkOk_by (N := ["self", "orders", "topic", "order", "record"]) (sc := defScope sLive) (by decide +kernel))
        (fun _ _ _ _ _ => pg_name (i := 4) nd rfl (Or.inl rfl)) (fun _ _ _ _ _ => pts_one (pt_cmp (pc_din hu (pr_ix (pr_var 4)) (pv 1)))) (fun _ _ _ _ _ => pv 4))))), ?_⟩
    obtain ⟨dx, hob⟩ := TF.ob
    intro dO hdO
    have s1 := same_upd (o := .dK []) hdO
    have TF1 := TF.mono s1
    have hb1 := s1 _ _ hb
    have nbO : b ≠ dO := ne_of_none hb hdO
    refine ⟨b, _, hb1, trivial, fun od => ?_⟩
    have TL := TF.lock (od := od) hb
    have hOl : (upd H b (.frz od (.dT (TsV ts)))) dO = none := by rw [upd_ne nbO.symm]; exact hdO
    have sL : L2.Same (upd H b (.frz od (.dT (TsV ts)))) (upd (upd H dO (.dK [])) b (.frz od (.dT (TsV ts)))) := fun x o e => by
      by_cases z : x = b
      · rw [z, upd_same] at e ⊢
        exact e
      · rw [upd_ne z] at e ⊢
        exact s1 _ _ e
    generalize hHL : upd (upd H dO (.dK [])) b (.frz od (.dT (TsV ts))) = HL at sL
    have hbL : HL b = some (.frz od (.dT (TsV ts))) := by rw [← hHL]; exact upd_same
    have hOL : HL dO = some (.dK []) := by
      rw [← hHL, upd_ne nbO.symm]
      exact upd_same
    obtain ⟨dxL, hobL⟩ := (TL.mono sL).ob
    have nb : b ∉ [dO] := fun z => nbO (List.mem_singleton.mp z)
    refine ⟨_, rfl, p, C, dxL, _, _, rfl, hobL, T.cl, T.nRows, flds_rows a b c d, b, od, rfl, .inr ⟨_, hbL, ?_⟩⟩
    -- what the table is behind stores to orders
    have TB : ∀ H', Bar [dO] HL H' → TabF C H' p L a b c d ts := fun H' B => TL.mono (B.same sL fun x hx => by rw [List.mem_singleton.mp hx]; exact hOl)
    have hbB : ∀ H', Bar [dO] HL H' → H' b = some (.frz od (.dT (TsV ts))) := fun H' B => B.keep _ _ hbL nb
    have tsl := TF.rw.few
    refine for_it (walk_keysT (d := b) (o := od) (kvs := TsV ts)) (fun i σ' H' => ∃ (okvs : List (L2.Key × V)) (x2 x3 x4 : Option V), Bar [dO] HL H' ∧ H' dO = some (.dK okvs) ∧ okvs.length ≤ i * 3001 ∧ σ' = [some (.ref p), some (.ref dO), x2, x3, x4] ∧
        ∀ z ∈ ts.take i, ∃ os, LiveP L z.1 os ∧ ∀ o ∈ os, inK okvs o = true)
      ⟨[], none, none, none, Bar.refl _ _, hOL, Nat.zero_le _, rfl, fun z hz => by simp at hz⟩ (fun i σ' H' _ ⟨okvs, _, _, _, B, _⟩ => hbB H' B) ?_ ?_
    · rintro i x σ' H' H'' hi ⟨okvs, x2, x3, x4, B, hO', hol, rfl, hall⟩ ⟨rfl, kk, vv, kq, hik, rfl, hkq⟩
      rw [List.getElem?_map] at hik
      cases hz : ts[i]? with
      | none => rw [hz] at hik; cases hik
      | some z =>
        rw [hz] at hik
        cases hik
        have hit : i < ts.length := (List.getElem?_eq_some_iff.mp hz).1
        have tk : ts.take (i + 1) = ts.take i ++ [z] := by
          rw [List.take_add_one, hz]
          rfl
        have TB' := TB H'' B
        obtain ⟨dx', hob'⟩ := TB'.ob
        -- for order in self.live_orders(topic)
        refine ⟨_, rfl, p, dx', _, rfl, hob', flds_no a b c d "live_orders" (by decide +kernel), _, rfl, p, L, a, b, c, d, ts, z.1, .ref kq, rfl, TB', tp_top.mpr ⟨kq, rfl, hkq⟩, List.mem_map.mpr ⟨z, List.mem_of_getElem? hz, rfl⟩, hA, hLen, fun l5 os H3 s3 hl5 hd5 hos hlive => ⟨l5, rfl, ?_⟩⟩
        have n5 : l5 ∉ [dO] := fun y => by
          rw [List.mem_singleton.mp y, hO'] at hl5
          cases hl5
        refine for_lstD hd5 (fun j σ' H' => ∃ (okvs' : List (L2.Key × V)) (x3 x4 : Option V), Bar [dO] H3 H' ∧ H' dO = some (.dK okvs') ∧ okvs'.length ≤ i * 3001 + j ∧ σ' = [some (.ref p), some (.ref dO), some (.ref kq), x3, x4] ∧
            (∀ o, inK okvs o = true → inK okvs' o = true) ∧ ∀ o ∈ os.take j, inK okvs' o = true)
          ⟨okvs, _, _, Bar.refl _ _, s3 _ _ hO', hol, rfl, fun o h => h, fun o ho => by simp at ho⟩ (fun j σ' H' ⟨okvs', _, _, B', _⟩ => ⟨fun o e => B'.keep _ _ e n5, B'.t⟩) ?_ ?_
        · rintro j dv v σ' H' hdj t1 ⟨okvs', x3, x4, B', hO3, hol', rfl, hmono, hall'⟩
          rw [List.getElem?_map] at hdj
          cases ho : os[j]? with
          | none => rw [ho] at hdj; cases hdj
          | some o =>
            rw [ho] at hdj
            cases hdj
            rw [Tp.int_of t1]
            have hjl : j < os.length := (List.getElem?_eq_some_iff.mp ho).1
            have tk2 : os.take (j + 1) = os.take j ++ [o] := by
              rw [List.take_add_one, ho]
              rfl
            have hsz : okvs'.length < sizeLine := by
              rw [sizeLine_eq]
              have : i * 3001 ≤ 3000 * 3001 := Nat.mul_le_mul_right _ (by omega)
              omega
            refine ⟨_, rfl, _, rfl, dO, _, rfl, DPut.k (k := Sum.inl o) hO3 hsz, ?_⟩
            refine ⟨_, _, _, B'.trans (Bar.dk hO3), upd_same, ?_, rfl, fun o' h => inK_keep (hmono o' h), fun o' h => ?_⟩
            · have := length_putK okvs' (Sum.inl o : L2.Key) (.bl true)
              omega
            · rw [tk2] at h
              rcases List.mem_append.mp h with h | h
              · exact inK_keep (hall' o' h)
              · rw [List.mem_singleton.mp h]
                exact inK_put
        · rintro σ' H' ⟨okvs', x3, x4, B', hO3, hol', rfl, hmono, hall'⟩
          rw [List.length_map] at hol'
          rw [List.length_map, List.take_length] at hall'
          refine ⟨okvs', _, _, _, (B.trans (s3.bar [dO])).trans B', hO3, ?_, rfl, fun z' hz' => ?_⟩
          · rw [Nat.succ_mul]
            omega
          · rw [tk] at hz'
            rcases List.mem_append.mp hz' with h | h
            · obtain ⟨os', h1, h2⟩ := hall z' h
              exact ⟨os', h1, fun o ho => hmono o (h2 o ho)⟩
            · rw [List.mem_singleton.mp h]
              exact ⟨os, hlive, hall'⟩
    · rintro σ' H' ⟨okvs, x2, x3, x4, B, hO', hol, rfl, hall⟩
      rw [List.length_map, List.take_length] at hall
      refine ⟨hbB H' B, ?_⟩
      have B2 : Bar [dO] (upd H dO (.dK [])) (upd H' b (.dT (TsV ts))) := bar_unlock (od := od) hb1 (by rw [hHL]; exact B)
      have sF : L2.Same H (upd H' b (.dT (TsV ts))) := B2.same s1 fun x hx => by rw [List.mem_singleton.mp hx]; exact hdO
      have hO2 : (upd H' b (.dT (TsV ts))) dO = some (.dK okvs) := by
        rw [upd_ne nbO.symm]
        exact hO'
      generalize upd H' b (.dT (TsV ts)) = H2 at B2 sF hO2
      have T2 := TF.mono sF
      obtain ⟨dx2, hob2⟩ := T2.ob
      -- the comprehension
      refine ⟨_, rfl, p, C, dx2, _, _, rfl, hob2, T.cl, T.nRec, flds_rec a b c d, a, rfl, T2.rc.sq, fun D hD => ?_⟩
      refine lc_lstD T2.rc hD (fun i H3 => ∃ acc, H3 = upd H2 D (.lst acc) ∧ TpAll H2 (((L.take i).filter fun r => inK okvs r.ord).map recD) acc ∧ acc.length ≤ i) ⟨[], rfl, TpAll.nil, Nat.le_refl _⟩
        (fun i H3 ⟨acc, e, _⟩ => by rw [e]; exact same_upd hD) ?_ ?_
      · rintro i dv v H3 hdi t0 t1 ⟨acc, rfl, hacc, hal⟩
        rw [List.getElem?_map] at hdi
        cases hr0 : L[i]? with
        | none => rw [hr0] at hdi; cases hdi
        | some r =>
          rw [hr0] at hdi
          cases hdi
          have hi : i < L.length := (List.getElem?_eq_some_iff.mp hr0).1
          have tk : L.take (i + 1) = L.take i ++ [r] := by
            rw [List.take_add_one, hr0]
            rfl
          have S2 : SlD (upd H2 D (.lst acc)) [none, none, none, none, some (recD r)] [some (.ref p), some (.ref dO), x2, x3, some v] := ⟨⟨v, rfl, t1⟩, trivial⟩
          refine ⟨rfl, _, _, S2, rfl, fun v3 t3 => ?_⟩
          rw [t3.int_of]
          refine ⟨_, rfl, dO, _, rfl, DGet.k (k := Sum.inl r.ord) (by rw [upd_ne (fun e => by rw [← e, hO2] at hD; cases hD)]; exact hO2), _, rfl, ?_⟩
          cases hq : inK okvs r.ord with
          | true =>
            refine iteT' hq ?_
            refine ⟨_, rfl, acc, upd_same, ?_, acc ++ [v], by rw [upd_upd], ?_, by rw [List.length_append]; exact Nat.succ_le_succ hal⟩
            · rw [sizeLine_eq]
              omega
            · rw [tk, List.filter_append, List.map_append]
              have e : List.filter (fun r => inK okvs r.ord) [r] = [r] := by
                rw [List.filter_cons, if_pos hq]
                rfl
              rw [e]
              exact hacc.append (TpAll.one t0)
          | false =>
            refine iteF' hq ?_
            refine ⟨acc, rfl, ?_, by omega⟩
            rw [tk, List.filter_append]
            have e : List.filter (fun r => inK okvs r.ord) [r] = [] := by
              rw [List.filter_cons, if_neg (by rw [hq]; exact Bool.false_ne_true)]
              rfl
            rw [e, List.append_nil]
            exact hacc
      · rintro H3 ⟨acc, rfl, hacc, _⟩
        rw [List.length_map, List.take_length] at hacc
        refine k D (fun r => inK okvs r.ord) _ (sF.trans (same_upd hD)) (sF.free hD) ⟨acc, upd_same, hacc.mono (same_upd hD).t⟩ ⟨?_, ?_⟩
        · intro t w g ht hv hg hh hl r hr e
          have hne : rows L t ≠ [] := fun z => by
            have : rowsC L t w = [] := by unfold rowsC; rw [z]; rfl
            rw [this] at hg
            cases hg
          obtain ⟨z, hz, rfl⟩ := List.mem_map.mp (TF.rw.all t hne)
          obtain ⟨os, h1, h2⟩ := hall z hz
          show inK okvs r.ord = true
          rw [e]
          exact h2 _ (h1.row ht w g hv hg hh hl)
        · intro n g o hg ho hlt r hr e
          have hne : rows L (.gone n) ≠ [] := fun z => by
            rw [z] at hg
            cases hg
          obtain ⟨z, hz, hz1⟩ := List.mem_map.mp (TF.rw.all _ hne)
          obtain ⟨os, h1, h2⟩ := hall z hz
          show inK okvs r.ord = true
          rw [e]
          exact h2 _ (h1.gone n g o hz1 hg ho hlt)
end
end K13
/-! ## K13Y -/
/-! Two rules that the layer lacks: setdefault and items() of a dict whose keys are tuples. -/
namespace K13
open PySem L2
section
variable {X : Cx} {pins : List (Addr × Obj)} {σ : St} {H : Hp} {s : Shared} {A : Around} {E : Value → Shared → Prop}
theorem sdT {a b : Addr} {kvs : List (List L2.Key × V)} {k : List L2.Key} {d : V} {r : Value} {Q : Value → Shared → Prop} (hu : A.units + 1 < cLine) (I : Inv X pins σ H s) (ea : H a = some (.dT kvs))
    (eb : H b = some (.tup (k.map kV))) (rd : RelV d r) (hl : kvs.length < sizeLine) (there : ∀ v, valV kvs k = some v → ∀ (z : Value) (s2 : Shared), Inv X pins σ H s2 → RelV v z → Q z s2)
    (new : valV kvs k = none → ∀ (z : Value) (s2 : Shared), Inv X pins σ (upd H a (.dT (putK kvs k d))) s2 → RelV d z → Q z s2) : wpAny (model X.prog X.w) A (call (.builtin "dict.setdefault") [.ref a, .ref b, r]) Q E s := by
  obtain ⟨few, ns, xs, pr, od⟩ := dt_of I.hok ea
  have q := pr.val k
  have hx : xs.length ≤ sizeLine := by
    have := Paired.length pr
    omega
  refine call_setdefault_heap (knd := tupleKind (mixKind X.prog X.w)) (hsz := hx) (tupleKind_room_in1 hu) (key_of I.hok eb) ns od (fun p ep => ?_) (fun en h2 od2 sb => ?_)
  · rw [ep] at q
    cases ev : valV kvs k with
    | none => rw [ev] at q; exact (show False from q).elim
    | some v => rw [ev] at q; exact there v ev _ _ (I.tok _) q
  · rw [en] at q
    cases ev : valV kvs k with
    | some v => rw [ev] at q; exact (show False from q).elim
    | none =>
      have l1 := length_putK kvs k d
      obtain ⟨ob, es, ep, g1, g2, g3, g4, g5, g6⟩ := od2
      refine new ev _ _ (d_write (t' := s.toks + (tupleKind (mixKind X.prog X.w)).draws k) I (by rw [ea]; trivial) sb ⟨ob, g1⟩ ⟨by omega, ns, _, (pr.put k eb rd).keeps fun c ys ec => ?_, ob, es, ep, g1, g2, g3, g4, g6⟩) rd
      rw [upd_ne fun z => by rw [z, ea] at ec; cases ec]
      exact ec
end
/-- d.setdefault(y, z), the keys of d are tuples -/
def tSdT (td ty tx : TE) : TE := fun σ H Q => td σ H fun x H1 => ∃ a, x = .ref a ∧ IsD H1 a ∧ ty σ H1 fun y H2 => tx σ H2 fun z H3 => ∃ (kvs : List (List L2.Key × V)) (k : List L2.Key) (b : Addr), H3 a = some (.dT kvs) ∧ y = .ref b ∧ H3 b = some (.tup (k.map kV)) ∧ kvs.length < sizeLine ∧
  (∀ v, valV kvs k = some v → Q v H3) ∧ (valV kvs k = none → Q z (upd H3 a (.dT (putK kvs k z))))
theorem pe_sdT {X : Cx} {o e f : Expr} {td ty tx : TE} {p1 p2 : Pos} (hu : X.A.units + 1 < cLine) (ho : PE X o td) (he : PE X e ty) (hf : PE X f tx) (m : M2 X o "setdefault" p1 e f p2) : PE X (.Call (.Attribute o "setdefault" p1) [e, f] [] p2) (tSdT td ty tx) := by
  constructor
  intro pins s σ H Q I h
  refine wpAny_Call_method m.base m.few m.line PySem.F.plainAttrs_dict PySem.F.slot_dict_setdefault PySem.F.type_dict_setdefault (thn (ho.run pins s σ H _ I h) ?_)
  rintro u s1 ⟨x, H1, I1, rx, a, rfl, d, q1⟩
  cases rx
  refine ⟨(isD_at I1 d).1, (isD_at I1 d).2.1, ?_⟩
  rw [m.trees]
  refine Calls.callWith_builtin rfl (Calls.evalArgs_plain (Calls.spliced_cons (thn (he.run pins s1 σ H1 _ I1 q1) ?_)))
  rintro iv s2 ⟨y, H2, I2, ry, q2⟩
  refine Calls.spliced_cons (thn (hf.run pins s2 σ H2 _ I2 q2) ?_)
  rintro fv s3 ⟨z, H3, I3, rz, kvs, k, b, ea, rfl, eb, hl, q3, q4⟩
  refine Calls.spliced_nil ?_
  cases ry
  exact sdT hu I3 ea eb rz hl (fun v hv z' s4 I4 rz' => ⟨v, _, I4, rz', q3 v hv⟩) (fun hn z' s4 I4 rz' => ⟨z, _, I4, rz', q4 hn⟩)
/-! ### for k, v in d.items(), the keys of d are tuples -/
def ItT (d : Addr) (o : Obj) (kvs : List (List L2.Key × V)) : It :=
  ⟨fun i H => H d = some (.frz o (.dT kvs)) ∧ i < kvs.length, fun i H x H' => ∃ (T q : Addr) (k : List L2.Key) (v : V), kvs[i]? = some (k, v) ∧ x = .ref T ∧ H T = none ∧ H q = some (.tup (k.map kV)) ∧ H' = upd H T (.tup [.ref q, v]),
    fun i H => H d = some (.frz o (.dT kvs)) ∧ kvs.length ≤ i⟩
theorem frzT2 {X : Cx} {pins : List (Addr × Obj)} {σ : St} {H : Hp} {s : Shared} {d : Addr} {o : Obj} {kvs : List (List L2.Key × V)} (I : Inv X pins σ H s) (h : H d = some (.frz o (.dT kvs))) :
    (d == sysModules) = false ∧ s.heap.get? d = some o ∧ o.ExactDict ∧ ∃ (es : Array DictEntry) (ep : Nat), o.data = .dict es ep ∧ es.size = kvs.length ∧
      ∀ (i : Nat) (k : List L2.Key) (v : V), kvs[i]? = some (k, v) → ∃ (en : DictEntry) (q : Addr), es[i]? = some en ∧ en.key = .ref q ∧ H q = some (.tup (k.map kV)) ∧ RelV v en.val := by
  obtain ⟨g0, few, ns, xs, pr, o2, es, ep, g1, g2, g3, g4, _⟩ := I.hok d _ h
  rw [g0] at g1
  cases g1
  refine ⟨ns, g0, g2, es, ep, g3, ?_, ?_⟩
  · have l1 : es.size = xs.length := by
      have := congrArg List.length g4
      simpa using this
    rw [l1]
    exact (Paired.length pr).symm
  · intro i k v e
    obtain ⟨x, hx, e1, e2, e3⟩ := paired_get pr e
    refine ⟨entryOfKey (tupleKind (mixKind X.prog X.w)) x, x.2.1, ?_, rfl, e2, e3⟩
    rw [← Array.getElem?_toList, g4, List.getElem?_map, hx]
    rfl
theorem turnT {P : Program} {w : World} {K : PySem.W.Frag} {d : Addr} {o : Obj} {kvs : List (List L2.Key × V)} {es : Array DictEntry} {ep : Nat} {elts : List Expr} {kk : Nat} {tp : Pos} (it : Addr) (hod : o.data = .dict es ep) :
    Turn P w K (.Tuple elts kk tp) (ItT d o kvs) [it] it (fun i h => ∃ u1 u2, IsItemIter h it d i es.size ep u1 u2) where
  mem := List.mem_cons_self
  obj := by
    rintro i h ⟨u1, u2, st⟩ b hb
    rw [List.mem_singleton.mp hb]
    exact ⟨_, st, fun v z => nomatch z⟩
  keep := by
    rintro i h h2 ⟨u1, u2, st⟩ k
    exact ⟨u1, u2, k it List.mem_cons_self _ st⟩
  item := by
    rintro X rfl rfl rfl hc i pins s σ H E I hf ⟨u1, u2, st⟩ ⟨hd, hi⟩
    obtain ⟨ns, g0, g2, es2, ep2, g3, l1, ent⟩ := frzT2 I hd
    obtain ⟨rfl, rfl⟩ := dict_ep hod g3
    have hie : i < es2.size := by omega
    obtain ⟨en, q, c1, c2, c3, c4⟩ := ent i _ _ (List.getElem?_eq_getElem hi)
    have c5 : es2[i] = en := by
      have := Array.getElem?_eq_getElem hie
      rw [c1] at this
      exact (Option.some.inj this).symm
    have lit : it < s.heap.objs.size := Heap.lt_size st
    refine DT.nextI st ⟨o, g0, g2, g3⟩ hie (fun h2 out tup size kept => ?_)
    refine ⟨_, rfl, wpAny_letOwnedTupleGo_items (s := { s with heap := h2 }) out (fun h3 st3 sb => ?_)⟩
    rw [c5] at tup st3
    have tup3 := (sb.2 _ (Nat.ne_of_gt lit)).trans tup
    have I3 : Inv X pins σ (upd H s.heap.objs.size (.tup [.ref q, kvs[i].2])) { s with heap := h3 } := by
      refine I.turnedNew (t' := s.toks) (ch := [it]) (fun b ob nb e => ?_) hf (Nat.le_refl _) ⟨(by show 2 ≤ sizeLine; decide), [en.key, en.val], .cons c2 (.cons c4 .nil), _, tup3, rfl, _, rfl⟩
      have nb' : b ≠ it := fun z => nb (List.mem_singleton.mpr z)
      exact (sb.2 b nb').trans (kept b ob nb' e)
    refine ⟨.ref s.heap.objs.size, _, I3, rfl, ⟨_, q, _, _, List.getElem?_eq_getElem hi, rfl, I.hok.fresh (Nat.le_refl _), c3, rfl⟩, ⟨_, _, st3⟩, fun b hb => ?_⟩
    rw [List.mem_singleton.mp hb, upd_ne (Nat.ne_of_lt lit)]
    exact (hf it List.mem_cons_self).1
  done := by
    rintro X rfl rfl rfl hc i pins s σ H E I hf ⟨u1, u2, st⟩ ⟨hd, hi⟩
    obtain ⟨ns, g0, g2, es2, ep2, g3, l1, ent⟩ := frzT2 I hd
    obtain ⟨rfl, rfl⟩ := dict_ep hod g3
    obtain ⟨f0, f1, f2, f3, f4, f5⟩ := hf it List.mem_cons_self
    exact DT.endI (I.ok.hd hc) st ⟨o, g0, g2, g3⟩ (by omega) (fun h2 eb => ⟨rfl, I.turned (t' := s.toks) (fun b ob nb e => eb b ob nb e) f0 f1 f3 f4 f5⟩)
  self := by
    rintro A i s Q E ⟨u1, u2, st⟩ h
    exact PySem.W.kcp_self st h
def iItT (td : TE) : TI := fun σ H R => td σ H fun x H1 => ∃ d o kvs, x = .ref d ∧ H1 d = some (.frz o (.dT kvs)) ∧ R (ItT d o kvs) H1
theorem pi_itT {X : Cx} {e : Expr} {td : TE} {p1 p2 tp : Pos} {elts : List Expr} {kk : Nat} (he : PE X e td) (h1 : attributeBase e "items" X.env (eval e X.env) = eval e X.env) (h2 : (p1.endLine == p2.line) = true) :
    PI X (.Tuple elts kk tp) (.Call (.Attribute e "items" p1) [] [] p2) (iItT td) := by
  constructor
  intro pins s σ H R I h
  refine wpAny_Call_method (T := "dict") (id := "dict.items") h1 rfl h2 F.plainAttrs_dict F.slot_dict_items F.type_dict_items (thn (he.run pins s σ H _ I h) ?_)
  rintro u s1 ⟨x, H1, I1, rx, d, o, kvs, rfl, hd, q⟩
  cases rx
  obtain ⟨ns, g0, g2, es, ep, g3, l1, ent⟩ := frzT2 I1 hd
  refine ⟨⟨o, g0, g2.1⟩, fun b z => ?_, ?_⟩
  · cases z
    exact ⟨o, g0, g2.2.1⟩
  have raw : DT.Raw s1.heap d es ep := ⟨o, g0, g2, g3⟩
  have I2 : Inv X pins σ H1 { s1 with heap := s1.heap.push { cls := .type "dict_items", data := .fields #[.ref d] } } := I1.kept (t' := s1.toks) (fun b ob z => Heap.get?_push_of_some _ z)
  have go : wpAny (model X.prog X.w) X.A (pyIter (.ref s1.heap.objs.size)) (PIE X pins σ (.Tuple elts kk tp) R) X.xe { s1 with heap := s1.heap.push { cls := .type "dict_items", data := .fields #[.ref d] } } :=
    DT.iterI (d := d) ⟨_, Heap.get?_push_size _ rfl, rfl, rfl⟩ (raw.push _) (pi_one (tk := s1.toks) I2 _ (turnT _ g3) ⟨.none, .none, Heap.get?_push_size _ rfl⟩ q)
  show wpAny _ _ (callWith p2 (.builtin "dict.items") [.ref d] [] []) _ X.xe s1
  exact method_meetsIn F.slot_dict_items F.entry_dict_items rfl (PySem.evalArgs_none ⟨rfl, raw.typeIs, F.args_dict_items_1 _, _, DT.meetsItems (es := es) (ep := ep) ns, raw, go⟩)
end K13
/-! ## K13Z -/
/-! How the table is built: dicts of lists that grow. -/
namespace K13
open PySem L2
/-- lists of data under keys: what each holds, all of them made behind H0 -/
structure Lists {κ : Type} (H0 H : Hp) (R : κ → List PyData) (ts : List (κ × Addr)) (m : Nat) : Prop where
  nd : (ts.map (·.1)).Nodup
  nl : (ts.map (·.2)).Nodup
  ls : ∀ z ∈ ts, LstD H z.2 (R z.1) ∧ R z.1 ≠ [] ∧ H0 z.2 = none
  all : ∀ t, R t ≠ [] → t ∈ ts.map (·.1)
  few : ts.length ≤ m
def addL {κ : Type} [DecidableEq κ] (R : κ → List PyData) (t : κ) (d : PyData) : κ → List PyData := fun t' => if t' = t then R t' ++ [d] else R t'
section
variable {κ : Type} [DecidableEq κ] {H0 H H2 : Hp} {R : κ → List PyData} {ts : List (κ × Addr)} {m : Nat} {t : κ} {l : Addr} {d : PyData}
theorem key_one {α β : Type} {ts : List (α × β)} (h : (ts.map (·.2)).Nodup) {z z' : α × β} (a : z ∈ ts) (b : z' ∈ ts) (e : z.2 = z'.2) : z = z' := by
  induction ts with
  | nil => cases a
  | cons x ts ih =>
    rw [List.map_cons, List.nodup_cons] at h
    rcases List.mem_cons.mp a with a | a
    · rcases List.mem_cons.mp b with b | b
      · rw [a, b]
      · exact absurd (List.mem_map.mpr ⟨z', b, by rw [← e, a]⟩) h.1
    · rcases List.mem_cons.mp b with b | b
      · exact absurd (List.mem_map.mpr ⟨z, a, by rw [e, b]⟩) h.1
      · exact ih h.2 a b
theorem Lists.there (B : Lists H0 H R ts m) (hz : (t, l) ∈ ts) (hl : LstD H2 l (R t ++ [d])) (keep : ∀ x ds, x ≠ l → LstD H x ds → LstD H2 x ds) : Lists H0 H2 (addL R t d) ts m := by
  refine ⟨B.nd, B.nl, fun z hzz => ?_, fun t' h => ?_, B.few⟩
  · by_cases e : z.1 = t
    · have : z = (t, l) := by
        have h1 := key_one (ts := ts.map fun z => (z.2, z.1)) (z := (z.2, z.1)) (z' := (l, t)) (by rw [List.map_map]; exact B.nd) (List.mem_map.mpr ⟨z, hzz, rfl⟩) (List.mem_map.mpr ⟨_, hz, rfl⟩) e
        have h2 := congrArg Prod.fst h1
        exact Prod.ext e h2
      rw [this]
      refine ⟨?_, ?_, (B.ls _ hz).2.2⟩
      · unfold addL
        rw [if_pos rfl]
        exact hl
      · unfold addL
        rw [if_pos rfl]
        exact fun q => nomatch (List.append_eq_nil_iff.mp q).2
    · have h1 := B.ls z hzz
      have : addL R t d z.1 = R z.1 := by unfold addL; rw [if_neg e]
      rw [this]
      refine ⟨keep _ _ (fun q => e ?_) h1.1, h1.2⟩
      exact congrArg Prod.fst (key_one B.nl hzz hz q)
  · unfold addL at h
    by_cases e : t' = t
    · rw [e]
      exact List.mem_map.mpr ⟨_, hz, rfl⟩
    · rw [if_neg e] at h
      exact B.all t' h
theorem Lists.new (B : Lists H0 H R ts m) (hn : t ∉ ts.map (·.1)) (hl : LstD H2 l [d]) (h0 : H0 l = none) (hf : H l = none) (keep : ∀ x ds, x ≠ l → LstD H x ds → LstD H2 x ds) : Lists H0 H2 (addL R t d) (ts ++ [(t, l)]) (m + 1) := by
  have hR : R t = [] := Classical.byContradiction fun z => hn (B.all t z)
  have hnl : ∀ z ∈ ts, z.2 ≠ l := fun z hz e => by
    obtain ⟨vs, h1, _⟩ := (B.ls z hz).1
    rw [e, hf] at h1
    cases h1
  refine ⟨?_, ?_, fun z hzz => ?_, fun t' h => ?_, ?_⟩
  · rw [List.map_append, List.map_cons, List.map_nil]
    exact nd_snoc B.nd hn
  · rw [List.map_append, List.map_cons, List.map_nil]
    refine nd_snoc B.nl fun q => ?_
    obtain ⟨z, hz, e⟩ := List.mem_map.mp q
    exact hnl z hz e
  · rcases List.mem_append.mp hzz with hz | hz
    · have h1 := B.ls z hz
      have e : z.1 ≠ t := fun e => hn (List.mem_map.mpr ⟨z, hz, e⟩)
      have : addL R t d z.1 = R z.1 := by unfold addL; rw [if_neg e]
      rw [this]
      exact ⟨keep _ _ (hnl z hz) h1.1, h1.2⟩
    · rw [List.mem_singleton.mp hz]
      have : addL R t d t = [d] := by unfold addL; rw [if_pos rfl, hR]; rfl
      exact ⟨by rw [this]; exact hl, by rw [this]; exact (fun q => by cases q), h0⟩
  · rw [List.map_append, List.mem_append]
    by_cases e : t' = t
    · exact .inr (by rw [e]; exact List.mem_cons_self)
    · unfold addL at h
      rw [if_neg e] at h
      exact .inl (B.all t' h)
  · rw [List.length_append]
    exact Nat.succ_le_succ B.few
omit [DecidableEq κ] in
theorem Lists.keep (B : Lists H0 H R ts m) (keep : ∀ x ds, LstD H x ds → LstD H2 x ds) : Lists H0 H2 R ts m :=
  ⟨B.nd, B.nl, fun z hz => ⟨keep _ _ (B.ls z hz).1, (B.ls z hz).2⟩, B.all, B.few⟩
omit [DecidableEq κ] in
theorem Lists.mono {n : Nat} (B : Lists H0 H R ts m) (h : m ≤ n) : Lists H0 H R ts n := ⟨B.nd, B.nl, B.ls, B.all, Nat.le_trans B.few h⟩
omit [DecidableEq κ] in
theorem Lists.eqv {R2 : κ → List PyData} (B : Lists H0 H R ts m) (h : ∀ t, R t = R2 t) : Lists H0 H R2 ts m := by
  have : R = R2 := funext h
  rw [← this]
  exact B
omit [DecidableEq κ] in
theorem Lists.nil : Lists H0 H (fun _ : κ => []) [] m := ⟨List.nodup_nil, List.nodup_nil, (fun z hz => by cases hz), fun t h => absurd rfl h, Nat.zero_le _⟩
end
/-! ### the rows, effect by effect -/
def rowsJ (P : List Rec) (r : Rec) (j : Nat) (t : Topic) : List (Int × Vl) := rows P t ++ ((eff r).take j).filterMap fun e => if e.1 = t then some (r.ord, e.2) else none
def touchB (n : Int) (e : Topic × Vl) : Bool := !e.1.isH && decide (e.1.snd = n)
def oldJ (P : List Rec) (r : Rec) (j : Nat) (n : Int) : Option Int := match oldest P n with
  | some o => some o
  | none => if ((eff r).take j).any (touchB n) then some r.ord else none
theorem rowsJ_zero (P : List Rec) (r : Rec) (t : Topic) : rowsJ P r 0 t = rows P t := by simp [rowsJ]
theorem rowsJ_all (P : List Rec) (r : Rec) (t : Topic) : rowsJ P r (eff r).length t = rows (P ++ [r]) t := by
  unfold rowsJ
  rw [List.take_length, rows_append, rows_one]
  rfl
theorem rowsJ_succ {P : List Rec} {r : Rec} {j : Nat} {e : Topic × Vl} (h : (eff r)[j]? = some e) (t : Topic) : rowsJ P r (j + 1) t = if t = e.1 then rowsJ P r j t ++ [(r.ord, e.2)] else rowsJ P r j t := by
  unfold rowsJ
  rw [List.take_add_one, h]
  simp only [Option.toList_some, List.filterMap_append, List.filterMap_cons, List.filterMap_nil]
  by_cases q : t = e.1
  · rw [if_pos q, if_pos q.symm, List.append_assoc]
  · rw [if_neg q, if_neg fun z => q z.symm, List.append_nil]
theorem oldJ_zero (P : List Rec) (r : Rec) (n : Int) : oldJ P r 0 n = oldest P n := by
  unfold oldJ
  cases oldest P n <;> rfl
theorem oldJ_all (P : List Rec) (r : Rec) (n : Int) : oldJ P r (eff r).length n = oldest (P ++ [r]) n := by
  unfold oldJ oldest
  rw [List.take_length, List.find?_append]
  cases h : P.find? (touches n) with
  | some x => rfl
  | none =>
    have e : touches n r = (eff r).any (touchB n) := rfl
    simp only [Option.map_none, Option.none_or, List.find?_cons, List.find?_nil, e]
    cases (eff r).any (touchB n) <;> rfl
theorem oldJ_succ {P : List Rec} {r : Rec} {j : Nat} {e : Topic × Vl} (h : (eff r)[j]? = some e) (n : Int) : oldJ P r (j + 1) n = match oldJ P r j n with
    | some o => some o
    | none => if touchB n e then some r.ord else none := by
  unfold oldJ
  cases oldest P n with
  | some x => rfl
  | none =>
    rw [List.take_add_one, h]
    simp only [Option.toList_some, List.any_append, List.any_cons, List.any_nil, Bool.or_false]
    cases ((eff r).take j).any (touchB n) <;> cases touchB n e <;> rfl
/-! ### the snapshots, topic by topic -/
def exb (L : List Rec) (n k : Int) : Bool := decide (valAt L (.snap n k) none ≠ .non)
theorem exb_iff {L : List Rec} {n k : Int} : exb L n k = true ↔ ex L n k := by
  unfold exb ex
  rw [decide_eq_true_eq]
def snap1 (L : List Rec) (n : Int) : Topic → Option Int
  | .snap n' k => if n' = n ∧ exb L n' k = true then some k else none
  | _ => none
theorem snap1_some {L : List Rec} {n k : Int} {t : Topic} : snap1 L n t = some k ↔ t = .snap n k ∧ exb L n k = true := by
  cases t with
  | snap n' k' =>
    show (if n' = n ∧ exb L n' k' = true then some k' else none) = some k ↔ _
    by_cases q : n' = n ∧ exb L n' k' = true
    · rw [if_pos q]
      obtain ⟨rfl, q⟩ := q
      constructor
      · intro h
        cases h
        exact ⟨rfl, q⟩
      · rintro ⟨h, _⟩
        cases h
        rfl
    · rw [if_neg q]
      constructor
      · intro h
        cases h
      · rintro ⟨h, h2⟩
        cases h
        exact absurd ⟨rfl, h2⟩ q
  | _ =>
    constructor
    · intro h
      cases h
    · rintro ⟨h, _⟩
      cases h
def snapK (L : List Rec) (n : Int) (ts : List Topic) : List Int := ts.filterMap (snap1 L n)
theorem mem_snapK {L : List Rec} {n k : Int} {ts : List Topic} : k ∈ snapK L n ts ↔ .snap n k ∈ ts ∧ exb L n k = true := by
  unfold snapK
  rw [List.mem_filterMap]
  constructor
  · rintro ⟨t, h1, h2⟩
    obtain ⟨rfl, h3⟩ := snap1_some.mp h2
    exact ⟨h1, h3⟩
  · rintro ⟨h1, h2⟩
    exact ⟨_, h1, snap1_some.mpr ⟨rfl, h2⟩⟩
theorem snapK_append {L : List Rec} {n : Int} (a b : List Topic) : snapK L n (a ++ b) = snapK L n a ++ snapK L n b := List.filterMap_append
theorem snapK_nodup {L : List Rec} {n : Int} : ∀ {ts : List Topic}, ts.Nodup → (snapK L n ts).Nodup
  | [], _ => List.nodup_nil
  | t :: ts, h => by
    have h' := List.nodup_cons.mp h
    unfold snapK
    rw [List.filterMap_cons]
    cases e : snap1 L n t with
    | none => exact snapK_nodup h'.2
    | some k =>
      refine List.nodup_cons.mpr ⟨fun z => h'.1 ?_, snapK_nodup h'.2⟩
      rw [(snap1_some.mp e).1]
      exact (mem_snapK.mp z).1
theorem snapK_len {L : List Rec} {n : Int} (ts : List Topic) : (snapK L n ts).length ≤ ts.length := List.length_filterMap_le _ _
/-- dicts of lists under ints -/
abbrev SsV (ss : List (Int × Addr)) : List (L2.Key × V) := ss.map fun z => (Sum.inl z.1, V.ref z.2)
theorem valSs_in {ss : List (Int × Addr)} {n : Int} {l : Addr} (nd : (ss.map (·.1)).Nodup) (h : (n, l) ∈ ss) : valV (SsV ss) (Sum.inl n : L2.Key) = some (.ref l) := by
  induction ss with
  | nil => cases h
  | cons z ss ih =>
    rw [List.map_cons, List.nodup_cons] at nd
    show valV ((Sum.inl z.1, V.ref z.2) :: SsV ss) (Sum.inl n : L2.Key) = _
    rcases List.mem_cons.mp h with e | h
    · rw [← e]
      exact valV_pos rfl
    · rw [valV_neg, ih nd.2 h]
      intro e
      have e' : z.1 = n := Sum.inl.inj e
      exact nd.1 (List.mem_map.mpr ⟨_, h, e'.symm⟩)
theorem valSs_out {ss : List (Int × Addr)} {n : Int} (h : n ∉ ss.map (·.1)) : valV (SsV ss) (Sum.inl n : L2.Key) = none := by
  induction ss with
  | nil => rfl
  | cons z ss ih =>
    rw [List.map_cons, List.mem_cons, not_or] at h
    show valV ((Sum.inl z.1, V.ref z.2) :: SsV ss) (Sum.inl n : L2.Key) = _
    rw [valV_neg, ih h.2]
    intro e
    exact h.1 (Sum.inl.inj e).symm
theorem Bar.dt {H : Hp} {l : Addr} {kvs : List (List L2.Key × V)} {o : HO} (h : H l = some (.dT kvs)) : Bar [l] H (upd H l o) :=
  ⟨fun b u e n => by rw [upd_ne (fun z => n (by rw [z]; exact List.mem_cons_self))]; exact e, fun b ys e => by rw [upd_ne (fun z => by rw [z, h] at e; cases e)]; exact e,
    fun b e => by
      by_cases z : b = l
      · rw [z, upd_same] at e; cases e
      · rw [upd_ne z] at e; exact e⟩
theorem Bar.ins {H : Hp} {l C dx : Addr} {fs : List (Str × V)} {o : HO} (h : H l = some (.ins C dx fs)) : Bar [l] H (upd H l o) :=
  ⟨fun b u e n => by rw [upd_ne (fun z => n (by rw [z]; exact List.mem_cons_self))]; exact e, fun b ys e => by rw [upd_ne (fun z => by rw [z, h] at e; cases e)]; exact e,
    fun b e => by
      by_cases z : b = l
      · rw [z, upd_same] at e; cases e
      · rw [upd_ne z] at e; exact e⟩
end K13
/-! ## K13J -/
/-! The turns of the loops that build a table. -/
namespace K13
open PySem L2
/-- grown.append(data) -/
theorem app_data {K : PySem.W.Frag} {σ : St} {H : Hp} {l : Addr} {ds : List PyData} {x : DX} {d : PyData} {δ : DE} {G : VK} (hl : LstD H l ds) (few : ds.length < sizeLine) (S : SlD H δ σ) (e : x δ = some d)
    (k : ∀ Hn, Bar [l] H Hn → LstD Hn l (ds ++ [d]) → G .non Hn) : tyV K "list" (.ref l) H ∧ tDs (dCons x dNil) σ H (fun xs H2 => rAppend (.ref l) xs H2 G) := by
  obtain ⟨vs, h1, h2⟩ := hl
  refine ⟨.inl ⟨rfl, _, .inl (.inl h1)⟩, δ, [d], S, ?_, fun us H3 s3 t3 => ?_⟩
  · unfold dCons dNil
    rw [e]
    rfl
  · obtain ⟨u, rfl, t5⟩ := tp_one t3
    have h3 := s3 _ _ h1
    refine ⟨l, vs, u, rfl, rfl, h3, ?_, ?_⟩
    · rw [← h2.length]
      exact few
    · have b : Bar [l] H3 (upd H3 l (.lst (vs ++ [u]))) := Bar.lst h3
      exact k _ ((s3.bar _).trans b) ⟨_, upd_same, (h2.mono (s3.t.trans b.t)).append (TpAll.one (t5.mono b.t))⟩
/-- a table that grows, over the heap H6 in which its dicts were new -/
structure Bld (H6 : Hp) (b c : Addr) (R : Topic → List PyData) (O : Int → Option Int) (ts : List (Topic × Addr)) (m : Nat) (H : Hp) : Prop where
  bar : Bar [b, c] H6 H
  hb : H b = some (.dT (TsV ts))
  ls : Lists H6 H R ts m
  oc : ∃ kvs : List (L2.Key × V), H c = some (.dK kvs) ∧ (∀ n, valV kvs (Sum.inl n) = (O n).map V.int) ∧ kvs.length ≤ m
def addO (O : Int → Option Int) (t : Topic) (o : Int) : Int → Option Int := fun n => match O n with
  | some x => some x
  | none => if touchB n (t, .non) then some o else none
theorem putK_ts {ts : List (Topic × Addr)} {t : Topic} {l : Addr} (h : t ∉ ts.map (·.1)) : putK (TsV ts) (topK t) (.ref l) = TsV (ts ++ [(t, l)]) := by
  rw [putK_new _ (valTs_out h)]
  show TsV ts ++ [(topK t, V.ref l)] = (ts ++ [(t, l)]).map fun z => (topK z.1, V.ref z.2)
  rw [List.map_append]
  rfl
theorem putK_ss {ss : List (Int × Addr)} {n : Int} {l : Addr} (h : n ∉ ss.map (·.1)) : putK (SsV ss) (Sum.inl n : L2.Key) (.ref l) = SsV (ss ++ [(n, l)]) := by
  rw [putK_new _ (valSs_out h)]
  show SsV ss ++ [(Sum.inl n, V.ref l)] = (ss ++ [(n, l)]).map fun z => (Sum.inl z.1, V.ref z.2)
  rw [List.map_append]
  rfl
theorem lst_ne {H H2 : Hp} {S : List Addr} (B : Bar S H H2) (no : ∀ x ∈ S, ∀ vs, H x ≠ some (.lst vs)) : ∀ x ds, LstD H x ds → LstD H2 x ds := fun x ds h => by
  refine h.bar B fun z => ?_
  obtain ⟨vs, h1, _⟩ := h
  exact no x z vs h1
/-- the oldest record of a namespace -/
theorem old_turn {K : PySem.W.Frag} {mg : Str → Option Value} {C p dx c : Addr} {fs : List (Str × V)} {σ : St} {H : Hp} {D : Ends} {t : Topic} {r : Rec} {δ : DE} {O : Int → Option Int} {m : Nat} (T : Txt K mg C)
    (hp : H p = some (.ins C dx fs)) (hf : fs.lookup ("oldest" : Str) = some (.ref c)) (e0 : σ[0]? = some (some (V.ref p))) (S : SlD H δ σ) (e3 : dVar 3 δ = some (recD r)) (e4 : dVar 4 δ = some (topD t))
    (oc : ∃ kvs : List (L2.Key × V), H c = some (.dK kvs) ∧ (∀ n, valV kvs (Sum.inl n) = (O n).map V.int) ∧ kvs.length ≤ m) (few : m < 100000)
    (k : ∀ H2, Bar [c] H H2 → (∃ kvs : List (L2.Key × V), H2 c = some (.dK kvs) ∧ (∀ n, valV kvs (Sum.inl n) = (addO O t r.ord n).map V.int) ∧ kvs.length ≤ m + 1) → D.nx σ H2) :
    tIfS (tStrInK true (dIx (dVar 4) (Int.toNat 0)) ["host", "told"]) (tDrop (tDSetd (tFld K (tVar 0) "oldest") (tR (dIx (dVar 4) (Int.toNat 1))) (tR (dIx (dVar 3) (Int.toNat 0))))) tNext D σ H := by
  obtain ⟨kvs, h1, h2, h3⟩ := oc
  refine ⟨δ, topN t, S, ixC e4 (topD0 t), ?_⟩
  show if (!(["host", "told"] : List Str).contains (topN t)) = true then _ else _
  rw [contains_isH]
  cases hT : t.isH with
  | true =>
    refine iteF' rfl ?_
    refine k H (Bar.refl _ _) ⟨kvs, h1, fun n => ?_, by omega⟩
    rw [h2]
    unfold addO touchB
    rw [hT]
    cases O n <;> rfl
  | false =>
    refine iteT' rfl ?_
    refine ⟨_, e0, p, C, dx, fs, _, rfl, hp, T.cl, T.nOld, hf, c, rfl, .inl ⟨_, .inl h1⟩, δ, _, S, ixC e4 (topD1 t), fun v4 t4 => ?_⟩
    refine ⟨δ, .int r.ord, S, ixC (d := recD r) e3 rfl, fun v3 t3 => ?_⟩
    rw [t3.int_of]
    refine ⟨kvs, Sum.inl t.snd, h1, t4.int_of, (by rw [sizeLine_eq]; omega), fun v hv => ?_, fun hn => ?_⟩
    · refine k H (Bar.refl _ _) ⟨kvs, h1, fun n => ?_, by omega⟩
      rw [h2]
      unfold addO
      cases hO : O n with
      | some x => rfl
      | none =>
        have : ¬ t.snd = n := fun e => by
          rw [e, h2, hO] at hv
          cases hv
        unfold touchB
        rw [decide_eq_false this, Bool.and_false]
        rfl
    · refine k _ (Bar.dk h1) ⟨_, upd_same, fun n => ?_, Nat.le_trans (length_putK _ _ _) (by omega)⟩
      rw [valV_put]
      by_cases e : n = t.snd
      · subst e
        rw [if_pos rfl]
        have : O t.snd = none := by
          rw [h2] at hn
          cases hO : O t.snd with
          | none => rfl
          | some x => rw [hO] at hn; cases hn
        unfold addO touchB
        rw [this, hT, decide_eq_true rfl]
        rfl
      · rw [if_neg fun z => e (Sum.inl.inj z), h2]
        unfold addO
        cases hO : O n with
        | some x => rfl
        | none =>
          unfold touchB
          rw [decide_eq_false fun z => e z.symm, Bool.and_false]
          rfl
/-- one effect is put into the rows -/
theorem row_turn {K : PySem.W.Frag} {mg : Str → Option Value} {C p dx b c : Addr} {fs : List (Str × V)} {σ : St} {H6 H : Hp} {D : Ends} {t : Topic} {v : Vl} {r : Rec} {δ : DE} {R : Topic → List PyData} {O : Int → Option Int} {ts : List (Topic × Addr)} {m : Nat} (T : Txt K mg C)
    (hp : H6 p = some (.ins C dx fs)) (hfr : fs.lookup ("rows" : Str) = some (.ref b)) (hfo : fs.lookup ("oldest" : Str) = some (.ref c)) (h6b : H6 b = some (.dT [])) (h6c : H6 c = some (.dK []))
    (e0 : σ[0]? = some (some (V.ref p))) (S : SlD H δ σ) (e3 : dVar 3 δ = some (recD r)) (e4 : dVar 4 δ = some (topD t)) (e5 : dVar 5 δ = some (vlD v)) (B : Bld H6 b c R O ts m H) (few : m < 100000) (fewR : (R t).length < 100000)
    (k : ∀ ts' H2, Bld H6 b c (addL R t (rowD (r.ord, v))) (addO O t r.ord) ts' (m + 1) H2 → Tups H H2 → (∀ x o, H x = some o → x ≠ b → x ≠ c → (∀ z ∈ ts, z.2 ≠ x) → H2 x = some o) → (∀ z ∈ ts', z ∈ ts ∨ H z.2 = none) → D.nx σ H2) :
    tSeq (tDrop (tBM K "list" rAppend (tSdT (tFld K (tVar 0) "rows") (tR (dVar 4)) (tLst tNil)) (tDs (dCons (dTup (dCons (dIx (dVar 3) (Int.toNat 0)) (dCons (dVar 5) dNil))) dNil))))
      (tIfS (tStrInK true (dIx (dVar 4) (Int.toNat 0)) ["host", "told"]) (tDrop (tDSetd (tFld K (tVar 0) "oldest") (tR (dIx (dVar 4) (Int.toNat 1))) (tR (dIx (dVar 3) (Int.toNat 0))))) tNext) D σ H := by
  obtain ⟨okvs, hc, ov, ofew⟩ := B.oc
  have npb : p ≠ b := ne_of hp h6b (by intro z; cases z)
  have npc : p ≠ c := ne_of hp h6c (by intro z; cases z)
  have nbc : b ≠ c := ne_of h6b h6c (by intro z; cases z)
  have hpH : H p = some (.ins C dx fs) := B.bar.keep _ _ hp (by simp [npb, npc])
  have edx : dTup (dCons (dIx (dVar 3) (Int.toNat 0)) (dCons (dVar 5) dNil)) δ = some (rowD (r.ord, v)) := dtup2 (ixC (d := recD r) e3 rfl) e5
  -- what stands behind the store into the list at l
  have fin : ∀ (ts' : List (Topic × Addr)) (l : Addr) (Hn : Hp), Bar [b, l] H Hn → H6 l = none → H l ≠ some (.dK okvs) → Hn b = some (.dT (TsV ts')) → Lists H6 Hn (addL R t (rowD (r.ord, v))) ts' (m + 1) → (∀ x, H x ≠ none → (∀ z ∈ ts, z.2 ≠ x) → x ≠ l) → (∀ z ∈ ts', z ∈ ts ∨ H z.2 = none) →
      tIfS (tStrInK true (dIx (dVar 4) (Int.toNat 0)) ["host", "told"]) (tDrop (tDSetd (tFld K (tVar 0) "oldest") (tR (dIx (dVar 4) (Int.toNat 1))) (tR (dIx (dVar 3) (Int.toNat 0))))) tNext D σ Hn := fun ts' l Hn Bn h6l hlc hbn Ln hx hts => by
    have npl : p ≠ l := fun e => by rw [e, h6l] at hp; cases hp
    have ncl : c ≠ l := fun e => by rw [e, h6l] at h6c; cases h6c
    refine old_turn T (Bn.keep _ _ hpH (by simp [npb, npl])) hfo e0 (S.mono Bn.t) e3 e4 ⟨okvs, Bn.keep _ _ hc (by simp [nbc.symm, ncl]), ov, ofew⟩ few fun H2 B2 oc2 => ?_
    have noLst : ∀ x ∈ [c], ∀ vs, Hn x ≠ some (.lst vs) := fun x hx vs e => by
      rw [List.mem_singleton.mp hx, Bn.keep _ _ hc (by simp [nbc.symm, ncl])] at e
      cases e
    refine k ts' H2 ⟨⟨fun x o e n => ?_, B.bar.t.trans (Bn.t.trans B2.t), fun x e => B.bar.free x (Bn.free x (B2.free x e))⟩, B2.keep _ _ hbn (by simp [nbc]), Ln.keep (lst_ne B2 noLst), oc2⟩ (Bn.t.trans B2.t) (fun x o e n1 n2 n3 => ?_) hts
    · have n' : x ≠ b ∧ x ≠ c := by simpa using n
      have nl : x ≠ l := fun z => by rw [z, h6l] at e; cases e
      exact B2.keep _ _ (Bn.keep _ _ (B.bar.keep _ _ e n) (by simp [n'.1, nl])) (by simp [n'.2])
    · have nl : x ≠ l := hx x (by rw [e]; exact fun z => nomatch z) n3
      exact B2.keep _ _ (Bn.keep _ _ e (by simp [n1, nl])) (by simp [n2])
  refine ⟨_, e0, p, C, dx, fs, _, rfl, hpH, T.cl, T.nRows, hfr, b, rfl, .inr ⟨_, .inl B.hb⟩, δ, _, S, e4, fun kv t1 => ?_⟩
  obtain ⟨kb, rfl, hk⟩ := tp_top.mp t1
  refine ⟨(by show 0 ≤ sizeLine; decide), fun q hq => ?_⟩
  have s1 := same_upd (o := .lst []) hq
  have nbq : b ≠ q := ne_of_none B.hb hq
  refine ⟨TsV ts, topK t, kb, s1 _ _ B.hb, rfl, s1 _ _ hk, ?_, fun v' hv => ?_, fun hn => ?_⟩
  · rw [List.length_map, sizeLine_eq]
    have := B.ls.few
    omega
  · -- the topic has rows
    have hin : t ∈ ts.map (·.1) := Classical.byContradiction fun z => by rw [valTs_out z] at hv; cases hv
    obtain ⟨⟨t', l⟩, hz, rfl⟩ := List.mem_map.mp hin
    rw [valTs_in B.ls.nd hz] at hv
    cases hv
    have hl := B.ls.ls _ hz
    obtain ⟨vs, hvl, _⟩ := id hl.1
    refine app_data (hl.1.mono s1) (by rw [sizeLine_eq]; exact Nat.lt_trans fewR (by decide)) (S.mono s1.t) edx fun Hn Bn hn => ?_
    have nlb : l ≠ b := ne_of hvl B.hb (by intro z; cases z)
    have BB : Bar [b, l] H Hn := ⟨fun x o e n => Bn.keep _ _ (s1 _ _ e) fun z => n (by rw [List.mem_singleton.mp z]; simp), s1.t.trans Bn.t, fun x e => s1.free (Bn.free x e)⟩
    refine fin ts l Hn BB hl.2.2 (by rw [hvl]; exact fun z => nomatch z) (Bn.keep _ _ (s1 _ _ B.hb) (by simp [nlb.symm])) ((B.ls.there hz hn fun x ds ne h => (h.mono s1).bar Bn (by simp [ne])).mono (by omega)) (fun x _ h e => h _ hz e.symm) fun z hz => .inl hz
  · -- its first row
    have hout : t ∉ ts.map (·.1) := fun z => by
      obtain ⟨⟨t', l⟩, hz, rfl⟩ := List.mem_map.mp z
      rw [valTs_in B.ls.nd hz] at hn
      cases hn
    rw [putK_ts hout]
    have hb1 := s1 _ _ B.hb
    have B1 : Bar [b] (upd H q (.lst [])) (upd (upd H q (.lst [])) b (.dT (TsV (ts ++ [(t, q)])))) := Bar.dt hb1
    have hq1 : LstD (upd (upd H q (.lst [])) b (.dT (TsV (ts ++ [(t, q)])))) q [] := ⟨[], by rw [upd_ne nbq.symm]; exact upd_same, TpAll.nil⟩
    refine app_data hq1 (by show 0 < sizeLine; decide) (S.mono (s1.t.trans B1.t)) edx fun Hn Bn hn => ?_
    have BB : Bar [b, q] H Hn := ⟨fun x o e n => Bn.keep _ _ (B1.keep _ _ (s1 _ _ e) fun z => n (by rw [List.mem_singleton.mp z]; simp)) fun z => n (by rw [List.mem_singleton.mp z]; simp), s1.t.trans (B1.t.trans Bn.t), fun x e => s1.free (B1.free x (Bn.free x e))⟩
    refine fin (ts ++ [(t, q)]) q Hn BB (B.bar.free q hq) (by rw [hq]; exact fun z => nomatch z) (Bn.keep _ _ upd_same (by simp [nbq])) (B.ls.new hout hn (B.bar.free q hq) hq fun x ds ne h => ?_) (fun x h _ e => h (by rw [e]; exact hq)) fun z hz => ?_
    · have h1 : LstD (upd (upd H q (.lst [])) b (.dT (TsV (ts ++ [(t, q)])))) x ds := lst_ne B1 (fun y hy vs e => by rw [List.mem_singleton.mp hy, hb1] at e; cases e) _ _ (h.mono s1)
      exact h1.bar Bn (by simp [ne])
    · rcases List.mem_append.mp hz with h | h
      · exact .inl h
      · rw [List.mem_singleton.mp h]
        exact .inr hq
/-- the snapshots that grow, over the heap H6 in which their dict was new -/
structure SBld (H6 : Hp) (d : Addr) (R : Int → List PyData) (ss : List (Int × Addr)) (m : Nat) (H : Hp) : Prop where
  bar : Bar [d] H6 H
  hb : H d = some (.dK (SsV ss))
  ls : Lists H6 H R ss m
theorem snap_turn {K : PySem.W.Frag} {mg : Str → Option Value} {C p dx d : Addr} {fs : List (Str × V)} {σ : St} {H6 H : Hp} {D : Ends} {n kk : Int} {δ : DE} {R : Int → List PyData} {ss : List (Int × Addr)} {m : Nat} (T : Txt K mg C)
    (hp : H p = some (.ins C dx fs)) (hf : fs.lookup ("snapshots" : Str) = some (.ref d)) (e0 : σ[0]? = some (some (V.ref p))) (S : SlD H δ σ) (e4 : dVar 4 δ = some (topD (.snap n kk))) (B : SBld H6 d R ss m H) (few : m < 100000) (fewR : (R n).length < 100000)
    (k : ∀ ss' H2, SBld H6 d (addL R n (.int kk)) ss' (m + 1) H2 → D.nx σ H2) :
    tDrop (tBM K "list" rAppend (tDSetd (tFld K (tVar 0) "snapshots") (tR (dIx (dVar 4) (Int.toNat 1))) (tLst tNil)) (tDs (dCons (dIx (dVar 4) (Int.toNat 2)) dNil))) D σ H := by
  refine ⟨_, e0, p, C, dx, fs, _, rfl, hp, T.cl, T.nSnap, hf, d, rfl, .inl ⟨_, .inl B.hb⟩, δ, _, S, ixC e4 (topD1 (.snap n kk)), fun v1 t1 => ?_⟩
  refine ⟨(by show 0 ≤ sizeLine; decide), fun q hq => ?_⟩
  have s1 := same_upd (o := .lst []) hq
  have ndq : d ≠ q := ne_of_none B.hb hq
  have e2 : dIx (dVar 4) (Int.toNat 2) δ = some (.int kk) := ixC (d := topD (.snap n kk)) e4 rfl
  refine ⟨SsV ss, Sum.inl n, s1 _ _ B.hb, t1.int_of, ?_, fun v' hv => ?_, fun hn => ?_⟩
  · rw [List.length_map, sizeLine_eq]
    have := B.ls.few
    omega
  · have hin : n ∈ ss.map (·.1) := Classical.byContradiction fun z => by rw [valSs_out z] at hv; cases hv
    obtain ⟨⟨n', l⟩, hz, rfl⟩ := List.mem_map.mp hin
    rw [valSs_in B.ls.nd hz] at hv
    cases hv
    have hl := B.ls.ls _ hz
    obtain ⟨vs, hvl, _⟩ := id hl.1
    refine app_data (hl.1.mono s1) (by rw [sizeLine_eq]; exact Nat.lt_trans fewR (by decide)) (S.mono s1.t) e2 fun Hn Bn hn => ?_
    have nld : l ≠ d := ne_of hvl B.hb (by intro z; cases z)
    refine k ss Hn ⟨⟨fun x o e n => Bn.keep _ _ (s1 _ _ (B.bar.keep _ _ e n)) fun z => ?_, B.bar.t.trans (s1.t.trans Bn.t), fun x e => B.bar.free x (s1.free (Bn.free x e))⟩, Bn.keep _ _ (s1 _ _ B.hb) (by simp [nld.symm]), (B.ls.there hz hn fun x ds ne h => (h.mono s1).bar Bn (by simp [ne])).mono (by omega)⟩
    rw [List.mem_singleton.mp z, hl.2.2] at e
    cases e
  · have hout : n ∉ ss.map (·.1) := fun z => by
      obtain ⟨⟨n', l⟩, hz, rfl⟩ := List.mem_map.mp z
      rw [valSs_in B.ls.nd hz] at hn
      cases hn
    rw [putK_ss hout]
    have hb1 := s1 _ _ B.hb
    have B1 : Bar [d] (upd H q (.lst [])) (upd (upd H q (.lst [])) d (.dK (SsV (ss ++ [(n, q)])))) := Bar.dk hb1
    have hq1 : LstD (upd (upd H q (.lst [])) d (.dK (SsV (ss ++ [(n, q)])))) q [] := ⟨[], by rw [upd_ne ndq.symm]; exact upd_same, TpAll.nil⟩
    refine app_data hq1 (by show 0 < sizeLine; decide) (S.mono (s1.t.trans B1.t)) e2 fun Hn Bn hn => ?_
    refine k (ss ++ [(n, q)]) Hn ⟨⟨fun x o e ne => Bn.keep _ _ (B1.keep _ _ (s1 _ _ (B.bar.keep _ _ e ne)) ne) fun z => ?_, B.bar.t.trans (s1.t.trans (B1.t.trans Bn.t)), fun x e => B.bar.free x (s1.free (B1.free x (Bn.free x e)))⟩, Bn.keep _ _ upd_same (by simp [ndq]), B.ls.new hout hn (B.bar.free q hq) hq fun x ds ne h => ?_⟩
    · rw [List.mem_singleton.mp z, B.bar.free q hq] at e
      cases e
    · have h1 : LstD (upd (upd H q (.lst [])) d (.dK (SsV (ss ++ [(n, q)])))) x ds := lst_ne B1 (fun y hy vs e => by rw [List.mem_singleton.mp hy, hb1] at e; cases e) _ _ (h.mono s1)
      exact h1.bar Bn (by simp [ne])
end K13
/-! ## K13I -/
/-! Table.__init__. -/
namespace K13
open PySem L2
abbrev sInit : Stmt := inClass (top 12) 0
theorem dc_lst {K : PySem.W.Frag} {a : Addr} {us : List V} {g : TG} {tt : TT} {tk tv : TE} {vs : List Nat} {σ : St} {H1 : Hp} {D : Addr} {Qd : Hp → Prop} (Pv : Nat → Hp → Prop) (h0 : Pv 0 (upd H1 D (.dK []))) (hl : ∀ i H, Pv i H → H a = some (.lst us))
    (hs : ∀ i x H, us[i]? = some x → Pv i H → g x (wipe σ vs) H fun σ2 H2 => wipe σ2 vs = wipe σ vs ∧ tt σ2 H2 fun b H3 =>
      if b = true then tk σ2 H3 fun y H4 => tv σ2 H4 fun z H5 => ∃ kvs k, y = kV k ∧ H5 D = some (.dK kvs) ∧ kvs.length < sizeLine ∧ Pv (i + 1) (upd H5 D (.dK (putK kvs k z))) else Pv (i + 1) H3) (hd : ∀ H, Pv us.length H → Qd H) :
    ∃ W : Nat → Nat → Hp → Prop, (∃ m, W 0 m (upd H1 D (.dK []))) ∧ ∀ i m H, W i m H →
      ((Itl K a).stop i H ∧ Qd H) ∨ ((Itl K a).go i H ∧ ∃ Nx : Hp → Prop, (∀ H', Nx H' → ∃ m', m' < m ∧ W (i + 1) m' H') ∧ ∀ x H', (Itl K a).yld i H x H' → g x (wipe σ vs) H' fun σ2 H2 => wipe σ2 vs = wipe σ vs ∧ tt σ2 H2 fun b H3 =>
        if b = true then tk σ2 H3 fun y H4 => tv σ2 H4 fun z H5 => ∃ kvs k, y = kV k ∧ H5 D = some (.dK kvs) ∧ kvs.length < sizeLine ∧ Nx (upd H5 D (.dK (putK kvs k z))) else Nx H3) := by
  refine ⟨fun i m H => m = us.length - i ∧ i ≤ us.length ∧ Pv i H, ⟨_, rfl, Nat.zero_le _, h0⟩, ?_⟩
  rintro i m H ⟨rfl, hi, p⟩
  have q := SqL.of (K := K) (hl i H p)
  by_cases hlt : i < us.length
  · refine .inr ⟨⟨us, us[i], q, List.getElem?_eq_getElem hlt⟩, Pv (i + 1), fun H' p' => ⟨us.length - (i + 1), by omega, rfl, hlt, p'⟩, ?_⟩
    rintro x H' ⟨rfl, y⟩
    exact hs i x H' (y us q) p
  · obtain rfl : i = us.length := by omega
    exact .inl ⟨⟨us, q, Nat.le_refl _⟩, hd H p⟩
theorem valV_none_of {κ : Type} [DecidableEq κ] {k : κ} : ∀ {kvs : List (κ × V)}, (∀ p ∈ kvs, p.1 ≠ k) → valV kvs k = none
  | [], _ => rfl
  | p :: kvs, h => by
    rw [valV_neg (h p List.mem_cons_self)]
    exact valV_none_of fun q hq => h q (List.mem_cons_of_mem _ hq)
abbrev ordKV (l : List (Rec × V)) : List (L2.Key × V) := l.map fun z => (Sum.inl z.1.ord, z.2)
theorem ordKV_get {r : Rec} {x : V} : ∀ {l : List (Rec × V)}, (l.Pairwise fun a b => a.1.ord < b.1.ord) → (r, x) ∈ l → valV (ordKV l) (Sum.inl r.ord : L2.Key) = some x
  | [], _, h => by cases h
  | z :: l, hp, h => by
    have hp' := List.pairwise_cons.mp hp
    show valV ((Sum.inl z.1.ord, z.2) :: ordKV l) (Sum.inl r.ord : L2.Key) = some x
    rcases List.mem_cons.mp h with e | h
    · rw [← e]
      exact valV_pos rfl
    · rw [valV_neg, ordKV_get hp'.2 h]
      intro e
      have e' : z.1.ord = r.ord := Sum.inl.inj e
      have e2 : z.1.ord < r.ord := hp'.1 _ h
      omega
theorem zip_asc {us : List V} : ∀ {L : List Rec}, Asc L → (L.zip us).Pairwise fun a b => a.1.ord < b.1.ord := by
  induction us with
  | nil => intro L _; rw [List.zip_nil_right]; exact List.Pairwise.nil
  | cons u us ih =>
    intro L ha
    cases L with
    | nil => exact List.Pairwise.nil
    | cons r L =>
      have ha' := List.pairwise_cons.mp ha
      rw [List.zip_cons_cons]
      refine List.pairwise_cons.mpr ⟨fun z hz => ?_, ih ha'.2⟩
      exact ha'.1 _ (List.of_mem_zip (a := z.1) (b := z.2) hz).1
theorem zip_at {L : List Rec} {us : List V} {i : Nat} {r : Rec} {x : V} (h1 : L[i]? = some r) (h2 : us[i]? = some x) : (L.zip us)[i]? = some (r, x) := by
  rw [List.getElem?_zip_eq_some]
  exact ⟨h1, h2⟩
theorem ords_le {L : List Rec} (ha : Asc L) : (L.map (·.ord)).Pairwise (· ≤ ·) := by
  rw [List.pairwise_map]
  exact ha.imp fun h => Int.le_of_lt h
theorem walk_itT {d : Addr} {o : Obj} {kvs : List (List L2.Key × V)} : Walk (ItT d o kvs) kvs.length (fun H => H d = some (.frz o (.dT kvs)))
    (fun i H x H' => ∃ (T q : Addr) (k : List L2.Key) (v : V), kvs[i]? = some (k, v) ∧ x = .ref T ∧ H T = none ∧ H q = some (.tup (k.map kV)) ∧ H' = upd H T (.tup [.ref q, v])) :=
  ⟨fun _ _ hi q => ⟨q, hi⟩, fun _ q => ⟨q, Nat.le_refl _⟩, fun _ _ _ _ _ _ y => y⟩
theorem SBld.mono {H6 H H2 : Hp} {d : Addr} {R : Int → List PyData} {ss : List (Int × Addr)} {m : Nat} (B : SBld H6 d R ss m H) (s : L2.Same H H2) : SBld H6 d R ss m H2 :=
  ⟨B.bar.trans (s.bar _), s _ _ B.hb, B.ls.keep fun x ds h => h.mono s⟩
theorem rows_of_ex {L : List Rec} {n k : Int} (h : ex L n k) : rows L (.snap n k) ≠ [] := fun e => by
  apply h
  unfold valAt
  rw [rowsC_none, e]
  rfl
abbrev NI : List Str := ["self", "records", "ordered", "record", "topic", "value", "rows", "order"]
def spInit (C : Addr) : Sp := fun vs H Q _ => ∃ (p dx lr : Addr) (L : List Rec), vs = [.ref p, .ref lr] ∧ H p = some (.ins C dx []) ∧ LstD H lr (L.map recD) ∧ Asc L ∧ L.length ≤ 60 ∧
  ∀ a b c d ts H', Bar [p] H H' → TabF C H' p L a b c d ts → H' b = some (.dT (TsV ts)) → Q .non H'
section
variable {P : Program} {w : World} {K : PySem.W.Frag} {mg : Str → Option Value} {base : Heap}
theorem scInit : FnScope NI ["self", "records"] (defScope sInit) := ⟨rfl, rfl, rfl, by decide +kernel, rfl, by decide +kernel, by decide +kernel⟩
theorem ok_init {f C fE fH : Addr} {fd fdE fdH : FuncData} (F : Fun K "__init__" "Table.__init__" sInit f fd) (T : Txt K mg C)
    (GE : FnOk P w K mg base CX0 2 fE fdE ["record"] (spEffs (fun _ => true) eff)) (gE : mg "effects" = some (.ref fE)) (kE : PySem.W.keepIn K (.ref fE) = true) (bE : Binds K fdE ["record"] [])
    (FH : Fun K "is_hidden" "Table.is_hidden" sHid fH fdH) (bH : Binds K fdH ["self", "topic", "order", "view"] []) (mH : Meth K C "is_hidden" fH) :
    FnOk P w K mg base CX0 3 f fd ["self", "records"] (spInit C) := by
  have GH : FnOk P w K mg base CX0 1 fH fdH ["self", "topic", "order", "view"] (spHid C) := ok_hid FH T
  refine F.ok scInit (fun vs H Q E h => ?_) (fun cdv A outer s H vs Q E hr h => ?_)
  · obtain ⟨p, dx, lr, L, rfl, _⟩ := h
    rfl
  · obtain ⟨p, dx, lr, L, rfl, hp, hlr, hA, hLen, k⟩ := h
    have hu := hu_of hr
    have nd := scInit.nd
    obtain ⟨aH, gH, hH⟩ := T.hH
    have hr1 := hr.mono (show 1 ≤ 2 by decide)
    refine ⟨_, pss_cons (ps_set (i := 2) nd rfl (.inr rfl) (pe_dc (own := [("record", 3)]) (g := gName 3) rfl nd (pi_list (pv 1)) (blkOk_by (N := NI) (sc := defScope sInit) (by decide +kernel))
        (fun _ _ _ _ _ => pg_name (i := 3) nd rfl (Or.inl rfl)) (fun _ _ _ _ _ => pts_nil) (fun _ _ _ _ _ => pr_ix (pr_var 3)) (fun _ _ _ _ _ => pv 3)))
      (pss_cons (ps_fld (pv 0) (pe_lc (own := [("order", 7)]) (g := gName 7) rfl nd (pi_list (pe_callB (call_sortedDI rfl) (by rfl) T.sorted (by decide +kernel) (pa_cons (pv 2) pa_nil))) (blkOk_by (N := NI) (sc := defScope sInit) (by decide +kernel))
        (fun _ _ _ _ _ => pg_name (i := 7) nd rfl (Or.inl rfl)) (fun _ _ _ _ _ => pts_nil) (fun _ _ _ _ _ => pe_dget hu (pv 2) (pv 7) (fun _ _ => rfl))) rfl)
      (pss_cons (ps_fld (pv 0) pe_dnewT rfl)
      (pss_cons (ps_fld (pv 0) pe_dnewK rfl)
      (pss_cons (ps_for PassesOwn.never rfl (pi_list (pe_fld (pv 0) rfl)) (pg_name (i := 3) nd rfl (.inl rfl))
        (pss_one (ps_for PassesOwn.never rfl (pi_list (pe_call GE hr rfl gE kE bE .nil pass0 (pds_cons (pd_var 3) pds_nil))) (pg_tup rfl (pgs_cons (pg_name (i := 4) nd rfl (.inl rfl)) (pgs_cons (pg_name (i := 5) nd rfl (.inl rfl)) pgs_nil)))
          (pss_cons (ps_expr (pe_bm PySem.F.plainAttrs_list PySem.F.slot_list_append PySem.F.type_list_append mt_append (pe_sdT hu (pe_fld (pv 0) rfl) (pr_var 4) (pe_lst pa_nil) ⟨rfl, rfl, rfl, rfl⟩) (pds_cons (pd_tup (pds_cons (pd_ix (pr_var 3)) (pds_cons (pd_var 5) pds_nil))) pds_nil)))
          (pss_one (ps_if (pt_sninK (pr_ix (pr_var 4)) (pe_glob rfl gH rfl) hH rfl) (pss_one (ps_expr (pe_dsetd (pe_fld (pv 0) rfl) (pr_ix (pr_var 4)) (pr_ix (pr_var 3)) ⟨rfl, rfl, rfl, rfl⟩))) pss_nil)))))) 
      (pss_cons (ps_fld (pv 0) pe_dnewK rfl)
      (pss_one (ps_lock (ps_for PassesOwn.never rfl (pi_itT (pe_fld (pv 0) rfl) rfl rfl) (pg_tup rfl (pgs_cons (pg_name (i := 4) nd rfl (.inl rfl)) (pgs_cons (pg_name (i := 6) nd rfl (.inl rfl)) pgs_nil)))
        (pss_one (ps_if (pw_and (pt_seq (pr_ix (pr_var 4)) pr_str) (pw_and (pt_cmp (pc_notN (pe_tix (pe_lx (pv 6) (pe_un un_neg pe_int) (fun _ _ => rfl) mono_neg) (hm := mono_lx mono_neg))))
            (pw_and1 (pt_not (pt_val (pe_meth (pv 0) T.cl mH GH hr1 bH .nil pass0 (pa_cons (pv 4) (pa_cons (pe_tix (pe_lx (pv 6) (pe_un un_neg pe_int) (fun _ _ => rfl) mono_neg) (hm := mono_lx mono_neg)) (pa_cons pe_non pa_nil))))))))).pt
          (pss_one (ps_expr (pe_bm PySem.F.plainAttrs_list PySem.F.slot_list_append PySem.F.type_list_append mt_append (pe_dsetd (pe_fld (pv 0) rfl) (pr_ix (pr_var 4)) (pe_lst pa_nil) ⟨rfl, rfl, rfl, rfl⟩) (pds_cons (pd_ix (pr_var 4)) pds_nil)))) pss_nil)))))))))), ?_⟩
    obtain ⟨us, hu1, hu2⟩ := id hlr
    have hus : us.length = L.length := by rw [← hu2.length, List.length_map]
    have uAt : ∀ {i : Nat} {x : V}, us[i]? = some x → ∃ r, L[i]? = some r ∧ Tp H (recD r) x := fun {i x} hx => by
      obtain ⟨d, hd, t⟩ := hu2.get' hx
      rw [List.getElem?_map] at hd
      cases hr0 : L[i]? with
      | none => rw [hr0] at hd; cases hd
      | some r =>
        rw [hr0] at hd
        cases hd
        exact ⟨r, rfl, t⟩
    -- ordered = {record[0]: record for record in records}
    refine ⟨_, rfl, lr, rfl, hlr.sq, fun dO hdO => ?_⟩
    have s0 : ∀ o, L2.Same H (upd H dO o) := fun o => same_upd hdO
    refine dc_lst (us := us) (fun i H' => H' = upd H dO (.dK (ordKV ((L.zip us).take i)))) rfl (fun i H' e => by rw [e]; exact s0 _ _ _ hu1) ?_ ?_
    · rintro i x H' hx rfl
      obtain ⟨r, hr0, tx⟩ := uAt hx
      have hi : i < L.length := (List.getElem?_eq_some_iff.mp hr0).1
      have S2 : SlD (upd H dO (.dK (ordKV ((L.zip us).take i)))) [none, none, none, some (recD r)] [some (.ref p), some (.ref lr), none, some x, none, none, none, none] := ⟨⟨x, rfl, tx.mono (s0 _).t⟩, trivial⟩
      refine ⟨rfl, _, _, S2, rfl, fun v3 t3 => ⟨_, rfl, _, Sum.inl r.ord, t3.int_of, upd_same, ?_, ?_⟩⟩
      · rw [List.length_map, List.length_take, sizeLine_eq]
        omega
      · rw [upd_upd]
        have hz := zip_at hr0 hx
        have tk : (L.zip us).take (i + 1) = (L.zip us).take i ++ [(r, x)] := by
          rw [List.take_add_one, hz]
          rfl
        have pw := zip_asc (us := us) hA
        have new : valV (ordKV ((L.zip us).take i)) (Sum.inl r.ord : L2.Key) = none := valV_none_of fun q hq e => by
          obtain ⟨z, hz1, rfl⟩ := List.mem_map.mp hq
          have e' : z.1.ord = r.ord := Sum.inl.inj e
          have pw2 : ((L.zip us).take (i + 1)).Pairwise fun a b => a.1.ord < b.1.ord := pw.take
          rw [tk, List.pairwise_append] at pw2
          have := pw2.2.2 z hz1 (r, x) List.mem_cons_self
          simp only at this
          omega
        rw [putK_new _ new, tk]
        show upd H dO (.dK (ordKV _ ++ [(Sum.inl r.ord, x)])) = upd H dO (.dK (ordKV (_ ++ [(r, x)])))
        unfold ordKV
        rw [List.map_append]
        rfl
    rintro H1 rfl
    have hzl : (L.zip us).length = us.length := by rw [List.length_zip, hus, Nat.min_self]
    rw [← hzl, List.take_length]
    have sO : L2.Same H (upd H dO (.dK (ordKV (L.zip us)))) := s0 _
    have hO1 : (upd H dO (.dK (ordKV (L.zip us)))) dO = some (.dK (ordKV (L.zip us))) := upd_same
    generalize upd H dO (.dK (ordKV (L.zip us))) = H1 at sO hO1
    -- self.records = [ordered[order] for order in sorted(ordered)]
    refine ⟨_, rfl, dO, _, L.map (·.ord), rfl, .inl hO1, ?_, by rw [List.length_map]; omega, fun ys q hperm hsort hq => ?_⟩
    · unfold ordKV
      rw [List.map_map, List.map_map]
      have e1 : (L.zip us).map ((fun x : L2.Key × V => x.1) ∘ fun z : Rec × V => (Sum.inl z.1.ord, z.2)) = ((L.zip us).map (·.1)).map (Sum.inl ∘ fun r : Rec => r.ord) := by rw [List.map_map]; rfl
      rw [e1, List.map_fst_zip (by omega)]
    obtain rfl : ys = L.map (·.ord) := PySem.W.ksm_same hperm hsort (ords_le hA)
    have sq2 := same_upd (o := .lst ((L.map (·.ord)).map V.int)) hq
    have hq2 : LstD (upd H1 q (.lst ((L.map (·.ord)).map V.int))) q ((L.map (·.ord)).map PyData.int) := ⟨_, upd_same, tp_ints.mpr rfl⟩
    have sH2 := sO.trans sq2
    have hO2 := sq2 _ _ hO1
    generalize upd H1 q (.lst ((L.map (·.ord)).map V.int)) = H2 at sq2 hq2 sH2 hO2
    refine ⟨q, rfl, hq2.sq, fun a ha => ?_⟩
    refine lc_lstD hq2 ha (fun i H' => H' = upd H2 a (.lst (us.take i))) rfl (fun i H' e => by rw [e]; exact same_upd ha) ?_ ?_
    · rintro i dv v H' hdi _ t1 rfl
      rw [List.getElem?_map, List.getElem?_map] at hdi
      cases hr0 : L[i]? with
      | none => rw [hr0] at hdi; cases hdi
      | some r =>
        rw [hr0] at hdi
        cases hdi
        rw [Tp.int_of t1]
        have hi : i < L.length := (List.getElem?_eq_some_iff.mp hr0).1
        have hx : us[i]? = some us[i] := List.getElem?_eq_getElem (by omega)
        refine ⟨rfl, _, rfl, _, rfl, dO, us[i], rfl, ?_, us.take i, upd_same, ?_, ?_⟩
        · have g := DGet.k (k := Sum.inl r.ord) (H := upd H2 a (.lst (us.take i))) (by rw [upd_ne (fun e => by rw [← e, hO2] at ha; cases ha)]; exact hO2)
          rw [ordKV_get (zip_asc hA) (List.mem_of_getElem? (zip_at hr0 hx))] at g
          exact g
        · rw [List.length_take, sizeLine_eq]
          omega
        · rw [upd_upd, List.take_add_one, hx]
          rfl
    rintro H3 rfl
    rw [List.length_map, List.length_map, ← hus, List.take_length]
    have np3 : p ≠ a := fun e => by rw [← e, sH2 _ _ hp] at ha; cases ha
    refine ⟨_, rfl, p, C, dx, [], rfl, (same_upd ha) _ _ (sH2 _ _ hp), T.cl, T.nRec, (by show 0 < 1000; decide), ?_⟩
    have B4 : Bar [p] H (upd (upd H2 a (.lst us)) p (.ins C dx (putF "records" (.ref a) []))) := ((sH2.trans (same_upd ha)).bar [p]).trans (Bar.ins ((same_upd ha) _ _ (sH2 _ _ hp)))
    have p4 : (upd (upd H2 a (.lst us)) p (.ins C dx (putF "records" (.ref a) []))) p = some (.ins C dx (putF "records" (.ref a) [])) := upd_same
    have a4 : LstD (upd (upd H2 a (.lst us)) p (.ins C dx (putF "records" (.ref a) []))) a (L.map recD) := ⟨us, by rw [upd_ne np3.symm]; exact upd_same, hu2.mono B4.t⟩
    generalize upd (upd H2 a (.lst us)) p (.ins C dx (putF "records" (.ref a) [])) = H4 at B4 p4 a4
    have l1 : (putF "records" (.ref a) []).length ≤ 1 := length_putF _ _ []
    -- self.rows = {}
    intro b hb
    have npb : p ≠ b := ne_of_none p4 hb
    have s5 := same_upd (o := .dT []) hb
    refine ⟨_, rfl, p, C, dx, _, rfl, s5 _ _ p4, T.cl, T.nRows, by omega, ?_⟩
    have l2 : (putF "rows" (.ref b) (putF "records" (.ref a) [])).length ≤ 2 := Nat.le_trans (length_putF _ _ _) (by omega)
    have B5 : Bar [p] H (upd (upd H4 b (.dT [])) p (.ins C dx (putF "rows" (.ref b) (putF "records" (.ref a) [])))) := (B4.trans (s5.bar [p])).trans (Bar.ins (s5 _ _ p4))
    have p5 : (upd (upd H4 b (.dT [])) p (.ins C dx (putF "rows" (.ref b) (putF "records" (.ref a) [])))) p = some (.ins C dx (putF "rows" (.ref b) (putF "records" (.ref a) []))) := upd_same
    have b5 : (upd (upd H4 b (.dT [])) p (.ins C dx (putF "rows" (.ref b) (putF "records" (.ref a) [])))) b = some (.dT []) := by rw [upd_ne npb.symm]; exact upd_same
    have a5 : LstD (upd (upd H4 b (.dT [])) p (.ins C dx (putF "rows" (.ref b) (putF "records" (.ref a) [])))) a (L.map recD) := (a4.mono s5).bar (Bar.ins (s5 _ _ p4)) (by simp [np3.symm])
    generalize upd (upd H4 b (.dT [])) p (.ins C dx (putF "rows" (.ref b) (putF "records" (.ref a) []))) = H5 at B5 p5 b5 a5
    -- self.oldest = {}
    intro c hc
    have npc : p ≠ c := ne_of_none p5 hc
    have nbc : b ≠ c := ne_of_none b5 hc
    have s6 := same_upd (o := .dK []) hc
    refine ⟨_, rfl, p, C, dx, _, rfl, s6 _ _ p5, T.cl, T.nOld, by omega, ?_⟩
    have l3 : (putF "oldest" (.ref c) (putF "rows" (.ref b) (putF "records" (.ref a) []))).length ≤ 3 := Nat.le_trans (length_putF _ _ _) (by omega)
    have fr : (putF "oldest" (.ref c) (putF "rows" (.ref b) (putF "records" (.ref a) []))).lookup ("rows" : Str) = some (.ref b) := by rw [lookup_putF, if_neg fne2, lookup_putF, if_pos rfl]
    have fo : (putF "oldest" (.ref c) (putF "rows" (.ref b) (putF "records" (.ref a) []))).lookup ("oldest" : Str) = some (.ref c) := by rw [lookup_putF, if_pos rfl]
    have fa : (putF "oldest" (.ref c) (putF "rows" (.ref b) (putF "records" (.ref a) []))).lookup ("records" : Str) = some (.ref a) := by rw [lookup_putF, if_neg fne5, lookup_putF, if_neg fne6, lookup_putF, if_pos rfl]
    have ef : ∀ d, putF "snapshots" (.ref d) (putF "oldest" (.ref c) (putF "rows" (.ref b) (putF "records" (.ref a) []))) = flds a b c d := fun d => rfl
    generalize putF "oldest" (.ref c) (putF "rows" (.ref b) (putF "records" (.ref a) [])) = fs at l3 fr fo fa ef
    have B6 : Bar [p] H (upd (upd H5 c (.dK [])) p (.ins C dx fs)) := (B5.trans (s6.bar [p])).trans (Bar.ins (s6 _ _ p5))
    have p6 : (upd (upd H5 c (.dK [])) p (.ins C dx fs)) p = some (.ins C dx fs) := upd_same
    have b6 : (upd (upd H5 c (.dK [])) p (.ins C dx fs)) b = some (.dT []) := by rw [upd_ne npb.symm]; exact s6 _ _ b5
    have c6 : (upd (upd H5 c (.dK [])) p (.ins C dx fs)) c = some (.dK []) := by rw [upd_ne npc.symm]; exact upd_same
    have a6 : LstD (upd (upd H5 c (.dK [])) p (.ins C dx fs)) a (L.map recD) := (a5.mono s6).bar (Bar.ins (s6 _ _ p5)) (by simp [np3.symm])
    generalize upd (upd H5 c (.dK [])) p (.ins C dx fs) = H6 at B6 p6 b6 c6 a6
    have nab : a ∉ [b, c] := by
      obtain ⟨vs, h1, _⟩ := a6
      have h2 : a ≠ b := ne_of h1 b6 (by intro z; cases z)
      have h3 : a ≠ c := ne_of h1 c6 (by intro z; cases z)
      simp [h2, h3]
    have npbc : p ∉ [b, c] := by simp [npb, npc]
    -- for record in self.records
    refine ⟨_, rfl, p, C, dx, fs, _, rfl, p6, T.cl, T.nRec, fa, a, rfl, ?_⟩
    refine for_lstD a6 (fun i σ' H' => ∃ (ts : List (Topic × Addr)) (x3 x4 x5 x6 x7 : Option V), Bld H6 b c (fun t => (rows (L.take i) t).map rowD) (oldest (L.take i)) ts (3 * i) H' ∧ σ' = [some (.ref p), some (.ref lr), some (.ref dO), x3, x4, x5, x6, x7])
      ⟨[], none, none, none, none, none, ⟨Bar.refl _ _, b6, Lists.nil, ⟨[], c6, fun n => rfl, Nat.zero_le _⟩⟩, rfl⟩ (fun i σ' H' ⟨ts, _, _, _, _, _, B, _⟩ => ⟨fun o e => B.bar.keep _ _ e nab, B.bar.t⟩) ?_ ?_
    · rintro i dv v H' H7 hdi t1 ⟨ts, x3, x4, x5, x6, x7, B, rfl⟩
      rw [List.getElem?_map] at hdi
      cases hr0 : L[i]? with
      | none => rw [hr0] at hdi; cases hdi
      | some r =>
        rw [hr0] at hdi
        cases hdi
        have hi : i < L.length := (List.getElem?_eq_some_iff.mp hr0).1
        have tk : L.take (i + 1) = L.take i ++ [r] := by
          rw [List.take_add_one, hr0]
          rfl
        have S7 : SlD H7 [none, none, none, some (recD r)] [some (.ref p), some (.ref lr), some (.ref dO), some v, x4, x5, x6, x7] := ⟨⟨v, rfl, t1⟩, trivial⟩
        -- for topic, value in effects(record)
        refine ⟨_, _, S7, rfl, fun us8 H8 s8 t8 => ?_⟩
        obtain ⟨u8, rfl, t8'⟩ := tp_one t8
        refine ⟨r, u8, rfl, t8', rfl, fun le H9 s9 hle hd9 => ⟨le, rfl, ?_⟩⟩
        have s79 := s8.trans s9
        have hle7 := s8.free hle
        obtain ⟨es, he1, he2⟩ := id hd9
        have hlen := effs_len r
        have hne0 : ∀ z ∈ ts, z.2 ≠ le := fun z hz e => by
          obtain ⟨vs, h1, _⟩ := (B.ls.ls z hz).1
          rw [e, hle7] at h1
          cases h1
        have start : Bld H6 b c (fun t => (rowsJ (L.take i) r 0 t).map rowD) (oldJ (L.take i) r 0) ts (3 * i + 0) H9 := by
          refine ⟨B.bar.trans (s79.bar _), s79 _ _ B.hb, (B.ls.keep fun x ds h => h.mono s79).eqv fun t => by rw [rowsJ_zero], ?_⟩
          obtain ⟨kvs, h1, h2, h3⟩ := B.oc
          exact ⟨kvs, s79 _ _ h1, fun n => by rw [h2, oldJ_zero], h3⟩
        refine for_lstD hd9 (fun j σ' H' => ∃ (ts : List (Topic × Addr)) (x4 x5 : Option V), Bld H6 b c (fun t => (rowsJ (L.take i) r j t).map rowD) (oldJ (L.take i) r j) ts (3 * i + j) H' ∧ Tups H9 H' ∧ H' le = some (.lst es) ∧ (∀ z ∈ ts, z.2 ≠ le) ∧
            σ' = [some (.ref p), some (.ref lr), some (.ref dO), some v, x4, x5, x6, x7])
          ⟨ts, _, _, start, fun _ _ e => e, he1, hne0, rfl⟩
          (fun j σ' H' ⟨ts, _, _, B', tu, hl', _⟩ => ⟨fun o e => by rw [he1] at e; cases e; exact hl', tu⟩) ?_ ?_
        · rintro j dv2 v2 σ' H' hdj t2 ⟨ts', x4, x5, B', tu, hl', hne, rfl⟩
          rw [List.getElem?_map] at hdj
          cases hej : (eff r)[j]? with
          | none => rw [hej] at hdj; cases hdj
          | some e =>
            rw [hej] at hdj
            cases hdj
            have hj : j < (eff r).length := (List.getElem?_eq_some_iff.mp hej).1
            obtain ⟨a2, xs, rfl, h2, h3⟩ := Tp.out t2
            simp only [TpAll] at h3
            obtain ⟨tv, _, rfl, ht1, vv, _, rfl, ht2, rfl⟩ := h3
            refine ⟨a2, _, rfl, SqT.of h2, rfl, _, _, rfl, _, _, rfl, rfl, ?_⟩
            have S9 : SlD H' [none, none, none, some (recD r), some (topD e.1), some (vlD e.2)] [some (.ref p), some (.ref lr), some (.ref dO), some v, some tv, some vv, x6, x7] := ⟨⟨v, rfl, t1.mono (s79.t.trans tu)⟩, ⟨tv, rfl, ht1⟩, ⟨vv, rfl, ht2⟩, trivial⟩
            have fewR : ((rowsJ (L.take i) r j e.1).map rowD).length < 100000 := by
              have h1 := rows_len (L.take i) e.1
              have h2 : (((eff r).take j).filterMap fun e' => if e'.1 = e.1 then some (r.ord, e'.2) else none).length ≤ ((eff r).take j).length := List.length_filterMap_le _ _
              rw [List.length_take] at h1 h2
              rw [List.length_map]
              unfold rowsJ
              rw [List.length_append]
              omega
            refine row_turn T p6 fr fo b6 c6 rfl S9 rfl rfl rfl B' (by omega) fewR fun ts2 H2' B2 tu2 keep hts => ?_
            refine ⟨ts2, _, _, ⟨B2.bar, B2.hb, (B2.ls.eqv fun t => ?_).mono (by omega), ?_⟩, tu.trans tu2, keep _ _ hl' (fun z => by rw [z, B'.hb] at hl'; cases hl') (fun z => by
                obtain ⟨kvs, h1, _⟩ := B'.oc
                rw [z, h1] at hl'
                cases hl') hne, fun z hz q => ?_, rfl⟩
            · unfold addL
              rw [rowsJ_succ hej]
              by_cases q : t = e.1
              · rw [if_pos q, if_pos q, List.map_append]
                rfl
              · rw [if_neg q, if_neg q]
            · obtain ⟨kvs, h1, h2, h3⟩ := B2.oc
              refine ⟨kvs, h1, fun n => ?_, by omega⟩
              rw [h2, oldJ_succ hej]
              rfl
            · rcases hts z hz with h | h
              · exact hne z h q
              · rw [q, hl'] at h
                cases h
        · rintro σ' H' ⟨ts', x4, x5, B', tu, hl', hne, rfl⟩
          rw [List.length_map] at B'
          refine ⟨ts', _, _, _, _, _, ⟨B'.bar, B'.hb, (B'.ls.eqv fun t => ?_).mono (by omega), ?_⟩, rfl⟩
          · rw [rowsJ_all, tk]
          · obtain ⟨kvs, h1, h2, h3⟩ := B'.oc
            exact ⟨kvs, h1, fun n => by rw [h2, oldJ_all, tk], by omega⟩
    rintro σ' H7 ⟨ts, x3, x4, x5, x6, x7, B, rfl⟩
    rw [List.length_map, List.take_length] at B
    -- self.snapshots = {}
    have p7 : H7 p = some (.ins C dx fs) := B.bar.keep _ _ p6 npbc
    intro d hd
    have npd : p ≠ d := ne_of_none p7 hd
    have nbd : b ≠ d := ne_of_none B.hb hd
    have s8 := same_upd (o := .dK []) hd
    refine ⟨_, rfl, p, C, dx, fs, rfl, s8 _ _ p7, T.cl, T.nSnap, by omega, ?_⟩
    rw [ef d]
    have b8 : (upd (upd H7 d (.dK [])) p (.ins C dx (flds a b c d))) b = some (.dT (TsV ts)) := by rw [upd_ne npb.symm]; exact s8 _ _ B.hb
    have tsl : ts.length ≤ 180 := by have := B.ls.few; omega
    -- for topic, rows in self.rows.items(): the dict is locked
    refine ⟨b, _, b8, trivial, fun od => ?_⟩
    have sL : L2.Same (upd (upd H7 p (.ins C dx (flds a b c d))) b (.frz od (.dT (TsV ts)))) (upd (upd (upd H7 d (.dK [])) p (.ins C dx (flds a b c d))) b (.frz od (.dT (TsV ts)))) := fun x o e => by
      by_cases z : x = b
      · rw [z, upd_same] at e ⊢
        exact e
      · rw [upd_ne z] at e ⊢
        by_cases y : x = p
        · rw [y, upd_same] at e ⊢
          exact e
        · rw [upd_ne y] at e ⊢
          exact s8 _ _ e
    have BP : Bar [p] H7 (upd H7 p (.ins C dx (flds a b c d))) := Bar.ins p7
    have bP : (upd H7 p (.ins C dx (flds a b c d))) b = some (.dT (TsV ts)) := BP.keep _ _ B.hb (by simp [npb.symm])
    have lstP : ∀ x ds, LstD H7 x ds → LstD (upd H7 p (.ins C dx (flds a b c d))) x ds := lst_ne BP fun x hx vs e => by rw [List.mem_singleton.mp hx, p7] at e; cases e
    have RP : RowsAt (upd H7 p (.ins C dx (flds a b c d))) b L ts := by
      refine ⟨.inl bP, B.ls.nd, fun z hz => ⟨lstP _ _ (B.ls.ls z hz).1, fun e => (B.ls.ls z hz).2.1 ?_⟩, fun t ht => B.ls.all t fun e => ht ?_, by omega⟩
      · show (rows L z.1).map rowD = []
        rw [e]
        rfl
      · exact List.map_eq_nil_iff.mp e
    have TRL : TabR C (upd (upd H7 p (.ins C dx (flds a b c d))) b (.frz od (.dT (TsV ts)))) p L b ts :=
      ⟨⟨dx, _, lock_ne bP upd_same (by intro z; cases z), flds_rows a b c d, flds_no a b c d⟩, RP.lock bP⟩
    have dL' : (upd (upd H7 p (.ins C dx (flds a b c d))) b (.frz od (.dT (TsV ts)))) d = none := by rw [upd_ne nbd.symm, upd_ne npd.symm]; exact hd
    have dL : (upd (upd (upd H7 d (.dK [])) p (.ins C dx (flds a b c d))) b (.frz od (.dT (TsV ts)))) d = some (.dK []) := by rw [upd_ne nbd.symm, upd_ne npd.symm]; exact upd_same
    have BU : ∀ H', Bar [d] (upd (upd (upd H7 d (.dK [])) p (.ins C dx (flds a b c d))) b (.frz od (.dT (TsV ts)))) H' → Bar [d] (upd (upd H7 d (.dK [])) p (.ins C dx (flds a b c d))) (upd H' b (.dT (TsV ts))) := fun H' BB => bar_unlock b8 BB
    have bL : (upd (upd (upd H7 d (.dK [])) p (.ins C dx (flds a b c d))) b (.frz od (.dT (TsV ts)))) b = some (.frz od (.dT (TsV ts))) := upd_same
    have pL' : (upd (upd (upd H7 d (.dK [])) p (.ins C dx (flds a b c d))) b (.frz od (.dT (TsV ts)))) p = some (.ins C dx (flds a b c d)) := by rw [upd_ne npb]; exact upd_same
    have B8 : Bar [p] H7 (upd (upd H7 d (.dK [])) p (.ins C dx (flds a b c d))) := (s8.bar [p]).trans (Bar.ins (s8 _ _ p7))
    generalize upd (upd (upd H7 d (.dK [])) p (.ins C dx (flds a b c d))) b (.frz od (.dT (TsV ts))) = HL at sL dL BU bL pL'
    generalize upd (upd H7 p (.ins C dx (flds a b c d))) b (.frz od (.dT (TsV ts))) = HL' at sL dL' TRL
    refine ⟨_, rfl, p, C, dx, _, _, rfl, pL', T.cl, T.nRows, flds_rows a b c d, b, od, _, rfl, bL, ?_⟩
    have TB : ∀ H', Bar [d] HL H' → TabR C H' p L b ts := fun H' BB => TRL.mono (BB.same sL fun x hx => by rw [List.mem_singleton.mp hx]; exact dL')
    refine for_it (walk_itT (d := b) (o := od) (kvs := TsV ts)) (fun i σ' H' => ∃ (ss : List (Int × Addr)) (x4 x6 : Option V), SBld HL d (fun n => (snapK L n ((ts.take i).map (·.1))).map PyData.int) ss i H' ∧ σ' = [some (.ref p), some (.ref lr), some (.ref dO), x3, x4, x5, x6, x7])
      ⟨[], _, _, ⟨Bar.refl _ _, dL, Lists.nil⟩, rfl⟩ (fun i σ' H' _ ⟨ss, _, _, SB, _⟩ => SB.bar.keep _ _ bL (by simp [nbd])) ?_ ?_
    · rintro i x σ' H' H'' hi ⟨ss, x4, x6, SB, rfl⟩ ⟨T2, q, kk, vv, hik, rfl, hT2, hq, rfl⟩
      rw [List.getElem?_map] at hik
      cases hz : ts[i]? with
      | none => rw [hz] at hik; cases hik
      | some z =>
        rw [hz] at hik
        cases hik
        have hit : i < ts.length := (List.getElem?_eq_some_iff.mp hz).1
        have tk : (ts.take (i + 1)).map (·.1) = (ts.take i).map (·.1) ++ [z.1] := by
          rw [List.take_add_one, hz]
          simp
        have sT := same_upd (o := .tup [.ref q, .ref z.2]) hT2
        have SB2 := SB.mono sT
        have hq2 := sT _ _ hq
        refine ⟨T2, _, rfl, SqT.of upd_same, rfl, _, _, rfl, _, _, rfl, rfl, ?_⟩
        generalize upd H' T2 (.tup [.ref q, .ref z.2]) = H2' at sT SB2 hq2
        have TB2 := TB H2' SB2.bar
        have S : SlD H2' [none, none, none, none, some (topD z.1)] [some (.ref p), some (.ref lr), some (.ref dO), x3, some (.ref q), x5, some (.ref z.2), x7] := ⟨⟨_, rfl, tp_top.mpr ⟨q, rfl, hq2⟩⟩, trivial⟩
        -- nothing is stored
        have stay : ∀ (H3 : Hp), L2.Same H2' H3 → (∀ n, snap1 L n z.1 = none) → ∃ (ss : List (Int × Addr)) (x4' x6' : Option V), SBld HL d (fun n => (snapK L n ((ts.take (i + 1)).map (·.1))).map PyData.int) ss (i + 1) H3 ∧
            [some (V.ref p), some (.ref lr), some (.ref dO), x3, some (.ref q), x5, some (.ref z.2), x7] = [some (.ref p), some (.ref lr), some (.ref dO), x3, x4', x5, x6', x7] := fun H3 s3 no => by
          have SB3 := SB2.mono s3
          refine ⟨ss, _, _, ⟨SB3.bar, SB3.hb, (SB3.ls.eqv fun n => ?_).mono (by omega)⟩, rfl⟩
          rw [tk, snapK_append]
          have : snapK L n [z.1] = [] := by
            unfold snapK
            rw [List.filterMap_cons, no n]
            rfl
          rw [this, List.append_nil]
        refine ⟨_, topN z.1, _, S, ixC rfl (topD0 z.1), rfl, ?_⟩
        by_cases hs : ∃ n kk, z.1 = .snap n kk
        · obtain ⟨n, kk, hs⟩ := hs
          have hrz := TB2.rw.ls z (List.mem_of_getElem? hz)
          have hrl : 0 < (rows L z.1).length := List.length_pos_iff.mpr hrz.2
          obtain ⟨g, hg⟩ : ∃ g, (rows L z.1).getLast? = some g := by
            cases e : (rows L z.1).getLast? with
            | none => exact absurd (List.getLast?_eq_none_iff.mp e) hrz.2
            | some g => exact ⟨g, rfl⟩
          have hg2 : (rows L z.1)[(rows L z.1).length - 1]? = some g := by rw [← List.getLast?_eq_getElem?]; exact hg
          have place : ixN ((rows L z.1).map rowD).length (-1) = some ((rows L z.1).length - 1) := by
            rw [List.length_map]
            exact ixN_last hrl
          have item : ((rows L z.1).map rowD)[(rows L z.1).length - 1]? = some (rowD g) := by
            rw [List.getElem?_map, hg2]
            rfl
          have hval : valAt L z.1 none = if hidden L z.1 g.1 none then .non else g.2 := by
            unfold valAt
            rw [rowsC_none, hg]
          have hsn : ∀ n', snap1 L n' z.1 = if n = n' ∧ valAt L z.1 none ≠ .non then some kk else none := fun n' => by
            rw [hs]
            show (if n = n' ∧ exb L n kk = true then some kk else none) = _
            by_cases e : n = n' ∧ valAt L (.snap n kk) none ≠ .non
            · rw [if_pos e, if_pos ⟨e.1, exb_iff.mpr e.2⟩]
            · rw [if_neg e, if_neg fun q => e ⟨q.1, exb_iff.mp q.2⟩]
          refine iteT' (by rw [hs]; dsimp only [topN]; decide +kernel) ?_
          refine ⟨z.2, _, rfl, _, rfl, -1, _, rowD g, rfl, hrz.1, place, item, fun u1 tu1 => ⟨_, _, tu1, rfl, fun u2 tu2 => ⟨_, rfl, ?_⟩⟩⟩
          rw [isN_eq tu2, isN_vl]
          by_cases hgn : g.2 = .non
          · refine iteF' (by rw [decide_eq_true hgn]; rfl) ?_
            refine iteF' rfl ?_
            refine stay H2' (L2.Same.refl _) fun n' => ?_
            rw [hsn, hval, hgn, if_neg]
            rintro ⟨_, h⟩
            exact h (by cases hidden L z.1 g.1 none <;> rfl)
          · refine iteT' (by rw [decide_eq_false hgn]; rfl) ?_
            obtain ⟨dx2, fs2, p2, _⟩ := TB2.ob
            have p2' : H2' p = some (.ins C dx (flds a b c d)) := SB2.bar.keep _ _ pL' (by simp [npd])
            refine ⟨_, rfl, p, dx, _, rfl, p2', flds_no a b c d "is_hidden" (by decide +kernel), _, rfl, z.2, _, rfl, _, rfl, -1, _, rowD g, rfl, hrz.1, place, item, fun u3 tu3 => ⟨_, _, tu3, rfl, fun u4 tu4 => ?_⟩⟩
            rw [tu4.int_of]
            refine ⟨p, L, b, ts, z.1, .ref q, g.1, none, rfl, TB2, tp_top.mpr ⟨q, rfl, hq2⟩, fun H3 s3 => ⟨_, rfl, ?_⟩⟩
            cases hh : hidden L z.1 g.1 none with
            | true =>
              refine iteF' rfl ?_
              refine stay H3 s3 fun n' => ?_
              rw [hsn, hval, hh, if_neg]
              rintro ⟨_, h⟩
              exact h rfl
            | false =>
              refine iteT' rfl ?_
              have hne : valAt L z.1 none ≠ .non := by
                rw [hval, hh]
                exact hgn
              have SB3 := SB2.mono s3
              refine snap_turn (n := n) (kk := kk) (K := K) (C := C) (p := p) T (s3 _ _ p2') (flds_snap a b c d) rfl (S.mono s3.t) (by rw [hs]; rfl) SB3 (by omega) ?_ fun ss' H4' SB4 => ?_
              · rw [List.length_map]
                have := snapK_len (L := L) (n := n) ((ts.take i).map (·.1))
                rw [List.length_map, List.length_take] at this
                omega
              · refine ⟨ss', _, _, ⟨SB4.bar, SB4.hb, SB4.ls.eqv fun n' => ?_⟩, rfl⟩
                unfold addL
                rw [tk, snapK_append]
                have e1 : snapK L n' [z.1] = if n' = n then [kk] else [] := by
                  unfold snapK
                  rw [List.filterMap_cons, hsn n']
                  by_cases e : n' = n
                  · rw [if_pos ⟨e.symm, hne⟩, if_pos e]
                    rfl
                  · rw [if_neg (fun h => e h.1.symm), if_neg e]
                    rfl
                rw [e1]
                by_cases e : n' = n
                · rw [if_pos e, if_pos e, List.map_append]
                  rfl
                · rw [if_neg e, if_neg e, List.append_nil]
        · refine iteF' ?_ ?_
          · cases hz1 : z.1 with
            | snap n kk => exact absurd ⟨n, kk, hz1⟩ hs
            | _ => dsimp only [topN]; decide +kernel
          · refine iteF' rfl ?_
            refine stay H2' (L2.Same.refl _) fun n' => ?_
            cases hz1 : z.1 with
            | snap n kk => exact absurd ⟨n, kk, hz1⟩ hs
            | _ => rfl
    · rintro σ' H' ⟨ss, x4, x6, SB, rfl⟩
      rw [List.length_map, List.take_length] at SB
      have bL2 : H' b = some (.frz od (.dT (TsV ts))) := SB.bar.keep _ _ bL (by simp [nbd])
      refine ⟨bL2, ?_⟩
      have BF := BU H' SB.bar
      have p8 : (upd (upd H7 d (.dK [])) p (.ins C dx (flds a b c d))) p = some (.ins C dx (flds a b c d)) := upd_same
      have d8 : (upd (upd H7 d (.dK [])) p (.ins C dx (flds a b c d))) d = some (.dK []) := by rw [upd_ne npd.symm]; exact upd_same
      generalize upd (upd H7 d (.dK [])) p (.ins C dx (flds a b c d)) = H8 at BF B8 p8 d8 b8
      have Hb : H b = none := B4.free b hb
      have Hc : H c = none := B5.free c hc
      have B7 : Bar [p] H H7 := ⟨fun x o e n => B.bar.keep _ _ (B6.keep _ _ e n) (by
          have h1 : x ≠ b := ne_of_none e Hb
          have h2 : x ≠ c := ne_of_none e Hc
          simp [h1, h2]), B6.t.trans B.bar.t, fun x e => B6.free x (B.bar.free x e)⟩
      have Hd : H d = none := B7.free d hd
      have BH : Bar [p] H (upd H' b (.dT (TsV ts))) := ⟨fun x o e n => BF.keep _ _ ((B7.trans B8).keep _ _ e n) (by
          have h1 : x ≠ d := ne_of_none e Hd
          simp [h1]), (B7.trans B8).t.trans BF.t, fun x e => (B7.trans B8).free x (BF.free x e)⟩
      have lst7 : ∀ x ds, LstD H7 x ds → LstD (upd H' b (.dT (TsV ts))) x ds := fun x ds h =>
        lst_ne BF (fun y hy vs e => by rw [List.mem_singleton.mp hy, d8] at e; cases e) _ _ (lst_ne B8 (fun y hy vs e => by rw [List.mem_singleton.mp hy, p7] at e; cases e) _ _ h)
      obtain ⟨okvs, hc7, ov, _⟩ := B.oc
      have tuF : Tups H' (upd H' b (.dT (TsV ts))) := fun x xs e => by rw [upd_ne (fun z => by rw [z, bL2] at e; cases e)]; exact e
      refine k a b c d ts _ BH ⟨⟨dx, BF.keep _ _ p8 (by simp [npd])⟩, lst7 _ _ (a6.bar B.bar nab), ?_, ?_, ?_⟩ upd_same
      · refine ⟨.inl upd_same, B.ls.nd, fun z hz => ⟨lst7 _ _ (B.ls.ls z hz).1, fun e => (B.ls.ls z hz).2.1 ?_⟩, fun t ht => B.ls.all t fun e => ht ?_, by omega⟩
        · show (rows L z.1).map rowD = []
          rw [e]
          rfl
        · exact List.map_eq_nil_iff.mp e
      · have ncd : c ≠ d := ne_of_none hc7 hd
        exact ⟨okvs, BF.keep _ _ (B8.keep _ _ hc7 (by simp [npc.symm])) (by simp [ncd]), ov⟩
      · refine ⟨SsV ss, by rw [upd_ne nbd.symm]; exact SB.hb, fun n => ?_⟩
        by_cases hn : n ∈ ss.map (·.1)
        · obtain ⟨⟨n', l⟩, hz, rfl⟩ := List.mem_map.mp hn
          rw [valSs_in SB.ls.nd hz]
          obtain ⟨⟨vs, h1, h2⟩, _⟩ := SB.ls.ls _ hz
          refine ⟨l, _, rfl, ⟨vs, ?_, h2.mono tuF⟩, snapK_nodup B.ls.nd, fun kk => ?_, ?_⟩
          · rw [upd_ne (fun z => by rw [z, bL2] at h1; cases h1)]
            exact h1
          · rw [mem_snapK, exb_iff]
            refine ⟨fun h => h.2, fun h => ⟨B.ls.all _ fun e => rows_of_ex h (List.map_eq_nil_iff.mp e), h⟩⟩
          · have := snapK_len (L := L) (n := n') (ts.map (·.1))
            rw [List.length_map] at this
            show (snapK L n' (ts.map (·.1))).length ≤ 3000
            omega
        · rw [valSs_out hn]
          intro kk hk
          refine hn (SB.ls.all n fun e => ?_)
          have h1 : kk ∈ snapK L n (ts.map (·.1)) := mem_snapK.mpr ⟨B.ls.all _ fun e => rows_of_ex hk (List.map_eq_nil_iff.mp e), exb_iff.mpr hk⟩
          have h2 : snapK L n (ts.map (·.1)) = [] := List.map_eq_nil_iff.mp e
          rw [h2] at h1
          cases h1
end
end K13
/-! ## K13K -/
/-! value_at, snapshots_of, live_records. -/
namespace K13
open PySem L2
abbrev sVal : Stmt := top 13
abbrev sSnaps : Stmt := top 14
abbrev sLiveR : Stmt := top 15
def snD : Option (Int × Int) → PyData
  | none => .none
  | some z => .tuple [.int z.1, .int z.2]
theorem inV_ints (a : Int) (bs : List Int) : inV (.int a) (bs.map V.int) = bs.contains a := by
  unfold inV
  induction bs with
  | nil => rfl
  | cons b bs ih =>
    rw [List.map_cons, List.any_cons, List.contains_cons, ih]
    congr 1
    show eqV (.int b) (.int a) = (a == b)
    unfold eqV
    rw [Bool.eq_iff_iff]
    simp
    exact ⟨fun h => h.symm, fun h => h.symm⟩
theorem flat_ints (bs : List Int) : (bs.map V.int).all flatV = true := by
  rw [List.all_eq_true]
  intro v hv
  obtain ⟨b, _, rfl⟩ := List.mem_map.mp hv
  rfl
/-- Table(records) -/
def tTab (C : Addr) (i : Nat) : TE := fun σ H Q => ∃ (lr : Addr) (L : List Rec), σ[i]? = some (some (V.ref lr)) ∧ LstD H lr (L.map recD) ∧ Asc L ∧ L.length ≤ 60 ∧
  ∀ p a b c d ts H', L2.Same H H' → H p = none → TabF C H' p L a b c d ts → H' b = some (.dT (TsV ts)) → Q (.ref p) H'
theorem pe_table {X : Cx} {e : Expr} {C : Addr} {i : Nat} (h : PE X e (tMake C (spInit C) [] E0 (tCons (tVar i) tNil))) : PE X e (tTab C i) :=
  PE.imp h fun σ H Q q => by
    obtain ⟨lr, L, e1, hl, ha, hn, k⟩ := q
    refine ⟨_, e1, fun x dx nx ndx nex => ?_⟩
    have s1 := same_upd (o := .own x) ndx
    have nx1 : (upd H dx (.own x)) x = none := by rw [upd_ne nex.symm]; exact nx
    have s2 := same_upd (o := .ins C dx []) nx1
    have s3 := s1.trans s2
    refine ⟨x, dx, lr, L, rfl, upd_same, hl.mono s3, ha, hn, fun a b c d ts H' B T hb => ⟨rfl, ?_⟩⟩
    exact k x a b c d ts H' (B.same s3 fun y hy => by rw [List.mem_singleton.mp hy]; exact nx) nx T hb
def spVal : Sp := fun vs H Q _ => ∃ (lr : Addr) (L : List Rec) (t : Topic) (tv sv : V) (s : Option (Int × Int)), vs = [.ref lr, tv, sv] ∧ LstD H lr (L.map recD) ∧ Asc L ∧ L.length ≤ 60 ∧ Tp H (topD t) tv ∧ Tp H (snD s) sv ∧ (∀ z, s = some z → ex L z.1 z.2) ∧
  ∀ v H', L2.Same H H' → Tp H' (vlD (valAt L t (s.map (·.2)))) v → Q v H'
def spSnaps : Sp := fun vs H Q _ => ∃ (lr : Addr) (L : List Rec) (n : Int), vs = [.ref lr, .int n] ∧ LstD H lr (L.map recD) ∧ Asc L ∧ L.length ≤ 60 ∧
  ∀ l (ks : List Int) H', L2.Same H H' → LstD H' l (ks.map PyData.int) → ks.Pairwise (· ≤ ·) → ks.Nodup → (∀ k, k ∈ ks ↔ ex L n k) → Q (.ref l) H'
def spLiveR : Sp := fun vs H Q _ => ∃ (lr : Addr) (L : List Rec), vs = [.ref lr] ∧ LstD H lr (L.map recD) ∧ Asc L ∧ L.length ≤ 60 ∧
  ∀ l (q : Rec → Bool) H', L2.Same H H' → H l = none → LstD H' l ((L.filter q).map recD) → Keeps L q → Q (.ref l) H'
section
variable {P : Program} {w : World} {K : PySem.W.Frag} {mg : Str → Option Value} {base : Heap}
theorem scLiveR : FnScope ["records"] ["records"] (defScope sLiveR) := ⟨rfl, rfl, rfl, by decide +kernel, rfl, by decide +kernel, by decide +kernel⟩
theorem ok_liveR {f C fI fL : Addr} {fd fdI fdL : FuncData} (F : Fun K "live_records" "live_records" sLiveR f fd) (T : Txt K mg C) (M : Mk K C fI)
    (GI : FnOk P w K mg base CX0 3 fI fdI ["self", "records"] (spInit C)) (bI : Binds K fdI ["self", "records"] [])
    (GL : FnOk P w K mg base CX0 3 fL fdL ["self"] (spLive C)) (bL : Binds K fdL ["self"] []) (mL : Meth K C "live" fL) :
    FnOk P w K mg base CX0 5 f fd ["records"] spLiveR := by
  refine F.ok scLiveR (fun vs H Q E h => ?_) (fun cdv A outer s H vs Q E hr h => ?_)
  · obtain ⟨lr, L, rfl, _⟩ := h
    rfl
  · obtain ⟨lr, L, rfl, hl, ha, hn, k⟩ := h
    refine ⟨_, pss_one (ps_ret (pe_meth0 (pe_table (pe_make M GI hr rfl T.mgC bI .nil pass0 (pa_cons (pv 0) pa_nil))) T.cl mL GL (hr.mono (by decide)) bL .nil pass0 rfl)), ?_⟩
    refine ⟨lr, L, rfl, hl, ha, hn, fun p a b c d ts H' s1 hp TF hb => ?_⟩
    obtain ⟨dx, hob⟩ := TF.ob
    refine ⟨p, dx, _, rfl, hob, flds_no a b c d "live" (by decide +kernel), p, L, a, b, c, d, ts, rfl, TF, hb, ha, by omega, fun l q H2 s2 hl2 hd2 K2 => ?_⟩
    exact k l q H2 (s1.trans s2) (s1.free hl2) hd2 K2
theorem scSnaps : FnScope ["records", "namespace"] ["records", "namespace"] (defScope sSnaps) := ⟨rfl, rfl, rfl, by decide +kernel, rfl, by decide +kernel, by decide +kernel⟩
theorem ok_snaps {f C fI : Addr} {fd fdI : FuncData} (F : Fun K "snapshots_of" "snapshots_of" sSnaps f fd) (T : Txt K mg C) (M : Mk K C fI)
    (GI : FnOk P w K mg base CX0 3 fI fdI ["self", "records"] (spInit C)) (bI : Binds K fdI ["self", "records"] []) :
    FnOk P w K mg base CX0 5 f fd ["records", "namespace"] spSnaps := by
  refine F.ok scSnaps (fun vs H Q E h => ?_) (fun cdv A outer s H vs Q E hr h => ?_)
  · obtain ⟨lr, L, n, rfl, _⟩ := h
    rfl
  · obtain ⟨lr, L, n, rfl, hl, ha, hn, k⟩ := h
    have hu := hu_of hr
    refine ⟨_, pss_one (ps_ret (pe_callB cr_sortedI (by rfl) T.sorted (by decide +kernel) (pa_cons (pe_dget2 hu (pe_fld (pe_table (pe_make M GI hr rfl T.mgC bI .nil pass0 (pa_cons (pv 0) pa_nil))) rfl) (pv 1) (pe_lst pa_nil) ⟨rfl, rfl, rfl, rfl⟩) pa_nil))), ?_⟩
    refine ⟨lr, L, rfl, hl, ha, hn, fun p a b c d ts H' s1 hp TF hb => ?_⟩
    obtain ⟨dx, hob⟩ := TF.ob
    obtain ⟨kvs, hk1, hk2⟩ := TF.sn
    refine ⟨p, C, dx, _, _, rfl, hob, T.cl, T.nSnap, flds_snap a b c d, d, rfl, .inl ⟨kvs, .inl hk1⟩, _, rfl, (by show 0 ≤ sizeLine; decide), fun q hq => ?_⟩
    have s2 := same_upd (o := .lst []) hq
    refine ⟨_, DGet.k (k := Sum.inl n) (s2 _ _ hk1), ?_⟩
    have hsn := hk2 n
    cases ev : valV kvs (Sum.inl n : L2.Key) with
    | none =>
      rw [ev] at hsn
      refine ⟨q, [], rfl, SqL.of upd_same, fun ns' p' hp1 hp2 hp3 => ?_⟩
      obtain rfl := hp1.eq_nil
      exact k p' [] _ ((s1.trans s2).trans (same_upd hp3)) ⟨[], upd_same, TpAll.nil⟩ List.Pairwise.nil List.nodup_nil fun kk => ⟨fun h => (by cases h), fun h => (hsn kk h).elim⟩
    | some v3 =>
      rw [ev] at hsn
      obtain ⟨l3, ks, rfl, hl3, hnd, hks, hkl⟩ := hsn
      obtain ⟨zs, hz1, hz2⟩ := hl3.mono s2
      rw [tp_ints] at hz2
      subst hz2
      refine ⟨l3, ks, rfl, SqL.of hz1, fun ns' p' hp1 hp2 hp3 => ?_⟩
      exact k p' ns' _ ((s1.trans s2).trans (same_upd hp3)) ⟨_, upd_same, tp_ints.mpr rfl⟩ hp2 (hp1.nodup_iff.mpr hnd) fun kk => (hp1.mem_iff).trans (hks kk)
/-- value_at, once the view is known -/
theorem val_tail {C p a b c d : Addr} {L : List Rec} {ts : List (Topic × Addr)} {t : Topic} {tv : V} {w : Option Int} {x0 x2 : Option V} {H : Hp} {D : Ends} (T : Txt K mg C) (TF : TabF C H p L a b c d ts) (hA : Asc L) (hn : L.length ≤ 60) (tt : Tp H (topD t) tv)
    (k : ∀ v H', L2.Same H H' → Tp H' (vlD (valAt L t w)) v → D.rt v H') :
    tSeq (tAsg (tMeth C "last_index" (spLast C) [] E0 (tVar 3) (tCons (tVar 1) (tCons (tVar 4) tNil))) (gName 5))
      (tSeq (tIfS (tTest (tOp (rI0 fun i j => .bl (decide (i < j))) (tVar 5) (tC (.int 0)))) (tRet (tC .non)) tNext)
      (tSeq (tAsg (tOp (rIxL K) (tDGet (tFld K (tVar 3) "rows") (tR (dVar 1))) (tVar 5)) (gTup K 2 (gCons (gName 6) (gCons (gName 7) gNil))))
      (tSeq (tIfS (tB (tMeth C "is_hidden" (spHid C) [] E0 (tVar 3) (tCons (tVar 1) (tCons (tVar 6) (tCons (tVar 4) tNil))))) (tRet (tC .non)) tNext) (tRet (tVar 7))))) D [x0, some tv, x2, some (.ref p), some (viewV w), none, none, none] H := by
  obtain ⟨dx, hob⟩ := TF.ob
  have hrl := rows_len L t
  refine ⟨_, rfl, p, dx, _, rfl, hob, flds_no a b c d "last_index" (by decide +kernel), _, rfl, _, rfl, p, L, b, ts, t, tv, w, rfl, TF.r, tt, (by rw [sizeLine_eq]; omega), fun H2 s2 => ?_⟩
  refine ⟨_, rfl, _, _, rfl, rfl, _, rfl, ?_⟩
  by_cases h0 : (rowsC L t w).length = 0
  · refine iteT' (decide_eq_true (by omega)) ?_
    refine k .non H2 s2 ?_
    have e : rowsC L t w = [] := List.length_eq_zero_iff.mp h0
    have : valAt L t w = .non := by
      unfold valAt
      rw [e]
      rfl
    rw [this]
    exact Tp.non
  · refine iteF' (decide_eq_false (by omega)) ?_
    have hpos : 0 < (rowsC L t w).length := Nat.pos_of_ne_zero h0
    obtain ⟨g, hg1, hg2⟩ := rowsC_last hA hpos
    have hle := rowsC_le L t w
    have TF2 := TF.mono s2
    obtain ⟨dx2, hob2⟩ := TF2.ob
    have hne : rows L t ≠ [] := fun e => by rw [e, List.length_nil] at hle; omega
    obtain ⟨lt, hz⟩ : ∃ lt, (t, lt) ∈ ts := by
      obtain ⟨⟨t', lt⟩, hz, rfl⟩ := List.mem_map.mp (TF.rw.all t hne)
      exact ⟨lt, hz⟩
    have hlt := (TF2.rw.ls _ hz).1
    obtain ⟨vs, hv1, hv2⟩ := hlt
    have S : SlD H2 [none, some (topD t)] [x0, some tv, x2, some (.ref p), some (viewV w), some (.int ((rowsC L t w).length - 1)), none, none] := ⟨⟨tv, rfl, tt.mono s2.t⟩, trivial⟩
    refine ⟨_, rfl, p, C, dx2, _, _, rfl, hob2, T.cl, T.nRows, flds_rows a b c d, _, _, S, rfl, fun v1 t1 => ?_⟩
    obtain ⟨kb, rfl, hk1⟩ := tp_top.mp t1
    refine ⟨b, _, rfl, .inr ⟨_, topK t, kb, TF2.rw.dc, rfl, hk1, (valTs_in TF2.rw.nd hz).symm⟩, _, rfl, lt, vs, ((rowsC L t w).length : Int) - 1, ?_⟩
    have hit : ((rows L t).map rowD)[(rowsC L t w).length - 1]? = some (rowD g) := by
      rw [List.getElem?_map, hg2]
      rfl
    obtain ⟨u, hu1, hu2⟩ := hv2.get hit
    refine ⟨u, rfl, rfl, SqL.of hv1, ?_, ?_⟩
    · have := atI_nat hu1
      rw [show (((rowsC L t w).length - 1 : Nat) : Int) = ((rowsC L t w).length : Int) - 1 by omega] at this
      exact this
    obtain ⟨a2, xs, rfl, h2, h3⟩ := Tp.out hu2
    simp only [TpAll] at h3
    obtain ⟨ov, _, rfl, ho, vv, _, rfl, hvv, rfl⟩ := h3
    rw [ho.int_of] at h2
    refine ⟨a2, _, rfl, SqT.of h2, rfl, _, _, rfl, _, _, rfl, rfl, ?_⟩
    refine ⟨_, rfl, p, dx2, _, rfl, hob2, flds_no a b c d "is_hidden" (by decide +kernel), _, rfl, _, rfl, _, rfl, p, L, b, ts, t, tv, g.1, w, rfl, TF2.r, tt.mono s2.t, fun H3 s3 => ⟨_, rfl, ?_⟩⟩
    have hval : valAt L t w = if hidden L t g.1 w then .non else g.2 := by
      unfold valAt
      rw [hg1]
    cases hh : hidden L t g.1 w with
    | true =>
      refine iteT' rfl ?_
      refine k .non H3 (s2.trans s3) ?_
      rw [hval, hh]
      exact Tp.non
    | false =>
      refine iteF' rfl ?_
      refine ⟨_, rfl, k vv H3 (s2.trans s3) ?_⟩
      rw [hval, hh]
      exact hvv.mono s3.t
theorem scVal : FnScope ["records", "topic", "snapshot", "table", "view", "index", "order", "value"] ["records", "topic", "snapshot"] (defScope sVal) := ⟨rfl, rfl, rfl, by decide +kernel, rfl, by decide +kernel, by decide +kernel⟩
theorem ok_val {f C fI fL fH : Addr} {fd fdI fdL fdH : FuncData} (F : Fun K "value_at" "value_at" sVal f fd) (T : Txt K mg C) (M : Mk K C fI)
    (GI : FnOk P w K mg base CX0 3 fI fdI ["self", "records"] (spInit C)) (bI : Binds K fdI ["self", "records"] [])
    (FL : Fun K "last_index" "Table.last_index" sLast fL fdL) (bL : Binds K fdL ["self", "topic", "view"] []) (mL : Meth K C "last_index" fL)
    (FH : Fun K "is_hidden" "Table.is_hidden" sHid fH fdH) (bH : Binds K fdH ["self", "topic", "order", "view"] []) (mH : Meth K C "is_hidden" fH) :
    FnOk P w K mg base CX0 5 f fd ["records", "topic", "snapshot"] spVal := by
  have GL : FnOk P w K mg base CX0 1 fL fdL ["self", "topic", "view"] (spLast C) := ok_last FL T
  have GH : FnOk P w K mg base CX0 1 fH fdH ["self", "topic", "order", "view"] (spHid C) := ok_hid FH T
  refine F.ok scVal (fun vs H Q E h => ?_) (fun cdv A outer s H vs Q E hr h => ?_)
  · obtain ⟨lr, L, t, tv, sv, sn, rfl, _⟩ := h
    rfl
  · obtain ⟨lr, L, t, tv, sv, sn, rfl, hl, hA, hn, tt, ts0, hex, k⟩ := h
    have hu := hu_of hr
    have nd := scVal.nd
    have hr1 := hr.mono (show 1 ≤ 4 by decide)
    refine ⟨_, pss_cons (ps_set (i := 3) nd rfl (.inl rfl) (pe_table (pe_make M GI hr rfl T.mgC bI .nil pass0 (pa_cons (pv 0) pa_nil))))
      (pss_cons (ps_set (i := 4) nd rfl (.inl rfl) pe_non)
      (pss_cons (ps_if (pt_notN (pr_var 2))
        (pss_cons (ps_if (pt_cmpR op_notIn_seq (pr_ix (pr_var 2)) (pe_dget2 hu (pe_fld (pv 3) rfl) (pr_ix (pr_var 2)) (pe_lst pa_nil) ⟨rfl, rfl, rfl, rfl⟩) rfl) pss_never pss_nil)
        (pss_one (ps_set (i := 4) nd rfl (.inl rfl) (pr_ix (pr_var 2))))) pss_nil)
      (pss_cons (ps_set (i := 5) nd rfl (.inl rfl) (pe_meth (pv 3) T.cl mL GL hr1 bL .nil pass0 (pa_cons (pv 1) (pa_cons (pv 4) pa_nil))))
      (pss_cons (ps_if (pt_cmpR op_lt (pv 5) pe_int (nomark _)) (pss_one (ps_ret pe_non)) pss_nil)
      (pss_cons (ps_asg (pe_ix ix_list (pe_dget hu (pe_fld (pv 3) rfl) (pr_var 1) (fun _ _ => rfl)) (pv 5) (fun _ _ => rfl)) (pg_tup rfl (pgs_cons (pg_name (i := 6) nd rfl (.inl rfl)) (pgs_cons (pg_name (i := 7) nd rfl (.inl rfl)) pgs_nil))))
      (pss_cons (ps_if (pt_val (pe_meth (pv 3) T.cl mH GH hr1 bH .nil pass0 (pa_cons (pv 1) (pa_cons (pv 6) (pa_cons (pv 4) pa_nil))))) (pss_one (ps_ret pe_non)) pss_nil)
      (pss_one (ps_ret (pv 7))))))))), ?_⟩
    refine ⟨lr, L, rfl, hl, hA, hn, fun p a b c d ts H1 s1 hp TF hb => ?_⟩
    obtain ⟨dx, hob⟩ := TF.ob
    have S1 : SlD H1 [none, some (topD t), some (snD sn)] [some (.ref lr), some tv, some sv, some (.ref p), some .non, none, none, none] := ⟨⟨tv, rfl, tt.mono s1.t⟩, ⟨sv, rfl, ts0.mono s1.t⟩, trivial⟩
    refine ⟨_, _, S1, rfl, ?_⟩
    cases sn with
    | none =>
      refine iteF' rfl ?_
      exact val_tail (w := none) T TF hA hn (tt.mono s1.t) fun v H' s t' => k v H' (s1.trans s) t'
    | some z =>
      obtain ⟨n, kk⟩ := z
      refine iteT' rfl ?_
      refine ⟨_, _, S1, rfl, fun v2 t2 => ?_⟩
      rw [t2.int_of]
      obtain ⟨kvs, hk1, hk2⟩ := TF.sn
      refine ⟨_, rfl, p, C, dx, _, _, rfl, hob, T.cl, T.nSnap, flds_snap a b c d, d, rfl, .inl ⟨kvs, .inl hk1⟩, _, _, S1, rfl, fun v3 t3 => ?_⟩
      rw [t3.int_of]
      refine ⟨(by show 0 ≤ sizeLine; decide), fun q hq => ?_⟩
      have s2 := same_upd (o := .lst []) hq
      refine ⟨_, DGet.k (k := Sum.inl n) (s2 _ _ hk1), ?_⟩
      have hx : ex L n kk := hex _ rfl
      have hsn := hk2 n
      cases ev : valV kvs (Sum.inl n : L2.Key) with
      | none =>
        rw [ev] at hsn
        exact (hsn kk hx).elim
      | some v4 =>
        rw [ev] at hsn
        obtain ⟨l3, ks, rfl, hl3, hnd, hks, hkl⟩ := hsn
        obtain ⟨zs, hz1, hz2⟩ := hl3.mono s2
        rw [tp_ints] at hz2
        subst hz2
        refine ⟨l3, _, rfl, .inl (SqL.of hz1), rfl, flat_ints ks, _, rfl, ?_⟩
        rw [inV_ints]
        refine iteF' ?_ ?_
        · have : ks.contains kk = true := List.contains_iff_mem.mpr ((hks kk).mpr hx)
          rw [this]
          rfl
        · refine ⟨_, _, S1.mono s2.t, rfl, fun v5 t5 => ?_⟩
          rw [t5.int_of]
          exact val_tail (w := some kk) T (TF.mono s2) hA hn ((tt.mono s1.t).mono s2.t) fun v H' s t' => k v H' ((s1.trans s2).trans s) t'
end
end K13
/-! ## K13N -/
/-! The law's tape. -/
namespace K13
open PySem L2
abbrev sNext : Stmt := top 17
theorem pget_list {X : Cx} : PGet X (fun o i H Q => ∃ (p : Addr) (xs : List V) (k : Int) (v : V), o = .ref p ∧ i = .int k ∧ SqL X.K H p xs ∧ 0 ≤ k ∧ xs[k.toNat]? = some v ∧ Q v H) := by
  rintro pins s σ H o i ov iv Q I ro ri ⟨p, xs, k, v, rfl, rfl, hq, h0, hx, q⟩
  cases ro
  obtain ⟨tk, rfl⟩ := ri
  obtain ⟨its, r, pl, few⟩ := I.list hq
  obtain ⟨u, hu, ru⟩ := r.get hx
  have lt : k.toNat < xs.length := (List.getElem?_eq_some_iff.mp hx).1
  have n63 := line63
  exact PySem.wpAny_getItem_list pl.isList h0 (by omega) (by simpa using hu) ⟨v, H, I, ru, q⟩
/-- where ways meet: what holds behind the first statement is said once -/
def tJoin (t u : TS) : TS := fun D σ H => ∃ I : St → Hp → Prop, t { D with nx := I } σ H ∧ ∀ σ2 H2, I σ2 H2 → u D σ2 H2
theorem pss_join {X : Cx} {st : Stmt} {rest : List Stmt} {t u : TS} (h1 : PS X st t) (h2 : PSs X rest u) : PSs X (st :: rest) (tJoin t u) := by
  constructor
  rintro pins s σ H D I ⟨J, h, k⟩
  refine wpAny_execs_cons (thn (h1.run pins s σ H { D with nx := J } I h) fun f s1 q => ?_)
  cases f with
  | next =>
    obtain ⟨σ2, H2, I2, q2⟩ := q
    exact h2.run pins s1 σ2 H2 D I2 (k σ2 H2 q2)
  | ret v => exact q
  | brk => exact q
  | cont => exact q
/-- the tape at tp, its cells at c -/
structure TapeAt (H : Hp) (tp c : Addr) (cells : List Int) : Prop where
  tl : ∃ pos rest seed : Int, H tp = some (.lst [.ref c, .int pos, .int rest, .int seed]) ∧ 0 ≤ pos
  cl : H c = some (.lst (cells.map V.int))
theorem TapeAt.ne {H : Hp} {tp c : Addr} {cells : List Int} (T : TapeAt H tp c cells) : c ≠ tp := by
  obtain ⟨pos, rest, seed, h, _⟩ := T.tl
  refine ne_of T.cl h fun z => ?_
  injection z with z
  cases cells with
  | nil => cases z
  | cons x xs => injection z with z1 _; cases z1
theorem TapeAt.put {H : Hp} {tp c : Addr} {cells : List Int} (T : TapeAt H tp c cells) {pos rest seed : Int} (h0 : 0 ≤ pos) : TapeAt (upd H tp (.lst [.ref c, .int pos, .int rest, .int seed])) tp c cells :=
  ⟨⟨pos, rest, seed, upd_same, h0⟩, by rw [upd_ne T.ne]; exact T.cl⟩
theorem TapeAt.same {H H' : Hp} {tp c : Addr} {cells : List Int} (T : TapeAt H tp c cells) (s : L2.Same H H') : TapeAt H' tp c cells := by
  obtain ⟨pos, rest, seed, h, h0⟩ := T.tl
  exact ⟨⟨pos, rest, seed, s _ _ h, h0⟩, s _ _ T.cl⟩
theorem TapeAt.bar {S : List Addr} {H H' : Hp} {tp c : Addr} {cells : List Int} (T : TapeAt H tp c cells) (B : Bar S H H') (h1 : tp ∉ S) (h2 : c ∉ S) : TapeAt H' tp c cells := by
  obtain ⟨pos, rest, seed, h, h0⟩ := T.tl
  exact ⟨⟨pos, rest, seed, B.keep _ _ h h1, h0⟩, B.keep _ _ T.cl h2⟩
/-- the built-ins that the law calls -/
structure Bis (mg : Str → Option Value) : Prop where
  int : mg "int" = none
  abs : mg "abs" = none
  len : mg "len" = none
  list : mg "list" = none
  tuple : mg "tuple" = none
  range : mg "range" = none
  sorted : mg "sorted" = none
  isi : mg "isinstance" = none
def spNext : Sp := fun vs H Q _ => ∃ (tp c : Addr) (cells : List Int) (m : Int), vs = [.ref tp, .int m] ∧ TapeAt H tp c cells ∧ 0 < m ∧ m < 1000000 ∧ ∀ (k : Int) H', 0 ≤ k → k < m → Bar [tp] H H' → TapeAt H' tp c cells → Q (.int k) H'
section
variable {P : Program} {w : World} {K : PySem.W.Frag} {mg : Str → Option Value} {base : Heap}
theorem scNext : FnScope ["_law_tape", "_law_many", "_law_rest", "_law_cell"] ["_law_tape", "_law_many"] (defScope sNext) := ⟨rfl, rfl, rfl, by decide +kernel, rfl, by decide +kernel, by decide +kernel⟩
theorem ok_next {f : Addr} {fd : FuncData} (F : Fun K "_law_next" "_law_next" sNext f fd) (T : Bis mg) : FnOk P w K mg base CX0 1 f fd ["_law_tape", "_law_many"] spNext := by
  refine F.ok scNext (fun vs H Q E h => ?_) (fun cdv A outer s H vs Q E hr h => ?_)
  · obtain ⟨tp, c, cells, m, rfl, _⟩ := h
    rfl
  · obtain ⟨tp, c, cells, m, rfl, TA, hm, hm2, k⟩ := h
    have nd := scNext.nd
    refine ⟨_, pss_cons (ps_set (i := 2) nd rfl (.inl rfl) (pe_ix ix_list (pv 0) pe_int (fun _ _ => rfl)))
      (pss_cons (ps_if (pt_cmpR op_gt (pv 2) pe_int (nomark _))
        (pss_cons (ps_asg (pe_op op_fdiv (pv 2) (pv 1)) (pg_sub (pv 0) pe_int set_list))
        (pss_one (ps_ret (pe_op op_mod (pe_callTy call_int1 (by rfl) T.int (by decide +kernel) (pa_cons (pv 2) pa_nil)) (pv 1))))) pss_nil)
      (pss_cons (ps_set (i := 3) nd rfl (.inl rfl) pe_int)
      (pss_join (ps_if (pt_cmpR op_lt (pe_ix ix_list (pv 0) pe_int (fun _ _ => rfl)) (pe_callB call_len_seq (by rfl) T.len PySem.boot_len (pa_cons (pe_ix ix_list (pv 0) pe_int (fun _ _ => rfl)) pa_nil)) (nomark _))
        (pss_cons (ps_set (i := 3) nd rfl (.inl rfl) (pe_callB call_abs (by rfl) T.abs (by decide +kernel) (pa_cons (pe_ix ix_list (pe_ix ix_list (pv 0) pe_int (fun _ _ => rfl)) (pe_ix ix_list (pv 0) pe_int (fun _ _ => rfl)) (fun _ _ => rfl)) pa_nil)))
        (pss_one (ps_augS (pv 0) pe_int pget_list pe_int ip_add set_list))) pss_nil)
      (pss_cons (ps_if (pt_cmpR op_ge (pv 3) (pe_op op_pow pe_int pe_int) (nomark _))
        (pss_cons (ps_asg (pe_op op_fdiv (pv 3) (pv 1)) (pg_sub (pv 0) pe_int set_list))
        (pss_one (ps_ret (pe_op op_mod (pe_callTy call_int1 (by rfl) T.int (by decide +kernel) (pa_cons (pv 3) pa_nil)) (pv 1))))) pss_nil)
      (pss_cons (ps_asg (pe_op op_mod (pe_callTy call_int1 (by rfl) T.int (by decide +kernel) (pa_cons (pe_op op_add (pe_op op_add (pe_op op_mul (pe_ix ix_list (pv 0) pe_int (fun _ _ => rfl)) pe_int) (pe_op op_mul (pv 3) pe_int)) pe_int) pa_nil)) pe_int) (pg_sub (pv 0) pe_int set_list))
      (pss_one (ps_ret (pe_op op_mod (pe_callTy call_int1 (by rfl) T.int (by decide +kernel) (pa_cons (pe_op op_fdiv (pe_op op_mod (pe_op op_mul (pe_ix ix_list (pv 0) pe_int (fun _ _ => rfl)) pe_int) pe_int) pe_int) pa_nil)) (pv 1))))))))), ?_⟩
    obtain ⟨pos, rest, seed, ht, hpos⟩ := TA.tl
    -- the answer from a number z, the tape having been written
    have ans : ∀ (z : Int) (H' : Hp), Bar [tp] H H' → TapeAt H' tp c cells → Q (.int (z % m)) H' := fun z H' B T' => k _ _ (Int.emod_nonneg _ (by omega)) (Int.emod_lt_of_pos _ hm) B T'
    refine ⟨_, rfl, tp, _, 2, _, rfl, rfl, SqL.of ht, atI_nat (j := 2) rfl, ?_⟩
    refine ⟨_, rfl, rest, 0, rfl, rfl, _, rfl, ?_⟩
    by_cases hr0 : 0 < rest
    · refine iteT' (decide_eq_true hr0) ?_
      refine ⟨_, rfl, _, rfl, rest, m, rfl, rfl, ⟨hm, by omega⟩, _, rfl, tp, _, 2, 2, rfl, rfl, ht, rfl, ?_⟩
      exact ⟨_, rfl, .inl ⟨rest, rfl, _, rfl, rest, m, rfl, rfl, hm, ans _ _ (Bar.lst ht) (TA.put hpos)⟩⟩
    · refine iteF' (decide_eq_false hr0) ?_
      refine ⟨fun σ' H' => ∃ cell : Int, σ' = [some (.ref tp), some (.int m), some (.int rest), some (.int cell)] ∧ Bar [tp] H H' ∧ TapeAt H' tp c cells, ?_, ?_⟩
      · refine ⟨_, rfl, tp, _, 1, _, rfl, rfl, SqL.of ht, atI_nat (j := 1) rfl, _, rfl, tp, _, 0, _, rfl, rfl, SqL.of ht, atI_nat (j := 0) rfl, c, _, rfl, .inl (SqL.of TA.cl), pos, _, rfl, rfl, _, rfl, ?_⟩
        by_cases hp : pos < ((cells.map V.int).length : Int)
        · refine iteT' (decide_eq_true hp) ?_
          have hlt : pos.toNat < cells.length := by rw [List.length_map] at hp; omega
          have hit : (cells.map V.int)[pos.toNat]? = some (.int cells[pos.toNat]) := by rw [List.getElem?_map, List.getElem?_eq_getElem hlt]; rfl
          have hat : atI (cells.map V.int) pos = some (.int cells[pos.toNat]) := by
            have := atI_nat hit
            rw [Int.toNat_of_nonneg hpos] at this
            exact this
          refine ⟨_, rfl, tp, _, 0, _, rfl, rfl, SqL.of ht, atI_nat (j := 0) rfl, _, rfl, tp, _, 1, _, rfl, rfl, SqL.of ht, atI_nat (j := 1) rfl, c, _, pos, _, rfl, rfl, SqL.of TA.cl, hat, _, rfl, ?_⟩
          refine ⟨_, rfl, tp, _, 1, _, rfl, rfl, SqL.of ht, by decide, rfl, pos, 1, rfl, rfl, tp, _, 1, 1, rfl, rfl, ht, rfl, ?_⟩
          exact ⟨_, rfl, Bar.lst ht, TA.put (by show 0 ≤ pos + 1; omega)⟩
        · refine iteF' (decide_eq_false hp) ?_
          exact ⟨0, rfl, Bar.refl _ _, TA⟩
      · rintro σ' H1 ⟨cell, rfl, B1, T1⟩
        obtain ⟨pos1, rest1, seed1, ht1, hpos1⟩ := T1.tl
        refine ⟨_, rfl, 10, 18, rfl, rfl, ⟨by decide, by decide, by decide⟩, cell, _, rfl, rfl, _, rfl, ?_⟩
        by_cases hc : (10 : Int) ^ (18 : Int).toNat ≤ cell
        · refine iteT' (decide_eq_true hc) ?_
          refine ⟨_, rfl, _, rfl, cell, m, rfl, rfl, ⟨hm, by omega⟩, _, rfl, tp, _, 2, 2, rfl, rfl, ht1, rfl, ?_⟩
          exact ⟨_, rfl, .inl ⟨cell, rfl, _, rfl, cell, m, rfl, rfl, hm, ans _ _ (B1.trans (Bar.lst ht1)) (T1.put hpos1)⟩⟩
        · refine iteF' (decide_eq_false hc) ?_
          refine ⟨_, rfl, tp, _, 3, _, rfl, rfl, SqL.of ht1, atI_nat (j := 3) rfl, seed1, 48271, rfl, rfl, .inr (by decide), _, rfl, cell, 69621, rfl, rfl, .inr (by decide), _, _, rfl, rfl, _, _, rfl, rfl, .inl ⟨_, rfl, _, 2147483647, rfl, rfl, (by show (0 : Int) < 2147483647; decide), _, rfl, tp, _, 3, 3, rfl, rfl, ht1, rfl, ?_⟩⟩
          refine ⟨_, rfl, tp, _, 3, _, rfl, rfl, SqL.of upd_same, atI_nat (j := 3) rfl, _, 16807, rfl, rfl, .inr (by decide), _, 2147483647, rfl, rfl, (by show (0 : Int) < 2147483647; decide), _, 7, rfl, rfl, ⟨by decide, by decide⟩, .inl ⟨_, rfl, _, rfl, _, m, rfl, rfl, hm, ans _ _ (B1.trans (Bar.lst ht1)) (T1.put hpos1)⟩⟩
end
end K13
/-! ## K13O -/
/-! The law's fields. -/
namespace K13
open PySem L2
abbrev sFields : Stmt := top 18
/-! ### data that has a shape -/
theorem shaped_of {d : PyData} (h1 : d.canLay0 = true) (h2 : d.depth ≤ 8) : SeqAt.shaped d = true := by
  show (d.canLay0 && decide (d.depth ≤ 64)) = true
  rw [h1, decide_eq_true (Nat.le_trans h2 (by decide))]
  rfl
theorem lays_of {ds : List PyData} (h : ∀ d ∈ ds, d.canLay0 = true) : PyData.canLayAll0 ds = true := by
  induction ds with
  | nil => simp only [PyData.canLayAll0]
  | cons d ds ih =>
    simp only [PyData.canLayAll0, h d List.mem_cons_self, ih fun x hx => h x (List.mem_cons_of_mem _ hx), Bool.and_self]
theorem depths_of {ds : List PyData} {n : Nat} (h : ∀ d ∈ ds, d.depth ≤ n) : PyData.depthAll ds ≤ n := by
  induction ds with
  | nil => simp only [PyData.depthAll]; exact Nat.zero_le _
  | cons d ds ih =>
    have h1 := h d List.mem_cons_self
    have h2 := ih fun x hx => h x (List.mem_cons_of_mem _ hx)
    simp only [PyData.depthAll]
    omega
theorem shaped_list {ds : List PyData} (h1 : ∀ d ∈ ds, d.canLay0 = true) (h2 : ∀ d ∈ ds, d.depth ≤ 7) : SeqAt.shaped (.list ds) = true := by
  refine shaped_of ?_ ?_
  · simp only [PyData.canLay0]
    exact lays_of h1
  · have := depths_of h2
    simp only [PyData.depth]
    omega
theorem shaped_ints (ks : List Int) : SeqAt.shaped (.list (ks.map PyData.int)) = true := by
  refine shaped_list (fun d hd => ?_) fun d hd => ?_
  · obtain ⟨k, _, rfl⟩ := List.mem_map.mp hd
    simp only [PyData.canLay0]
  · obtain ⟨k, _, rfl⟩ := List.mem_map.mp hd
    simp only [PyData.depth]
    omega
def snapD (z : Int × Int) : PyData := .tuple [.int z.1, .int z.2]
theorem shaped_snaps (ks : List (Int × Int)) : SeqAt.shaped (.list (ks.map snapD)) = true := by
  refine shaped_list (fun d hd => ?_) fun d hd => ?_
  · obtain ⟨k, _, rfl⟩ := List.mem_map.mp hd
    simp only [snapD, PyData.canLay0, PyData.canLayAll0, Bool.and_self]
  · obtain ⟨k, _, rfl⟩ := List.mem_map.mp hd
    simp only [snapD, PyData.depth, PyData.depthAll]
    omega
theorem eqv_nil (ds : List PyData) : PyData.eqv (.list ds) (.list []) = ds.isEmpty := by
  cases ds <;> simp [PyData.eqv, PyData.eqvAll]
/-- xs == [], xs != [] -/
def tNilT (neg : Bool) (i : Nat) : TT := fun σ H Q => ∃ (l : Addr) (ds : List PyData), σ[i]? = some (some (V.ref l)) ∧ LstD H l ds ∧ SeqAt.shaped (.list ds) = true ∧ ∀ H', L2.Same H H' → Q (if neg then !ds.isEmpty else ds.isEmpty) H'
theorem pt_nil {X : Cx} {e : Expr} {i : Nat} {p1 p2 : Pos} (hu : X.A.units + 64 < cLine) (he : PE X e (tVar i)) : PT X (.Compare e [.Eq] [.List [] p1] p2) (tNilT false i) :=
  PT.imp (pt_cmpR (op_eqD hu) he (pe_lst pa_nil) (nomark _)) fun σ H Q h => by
    obtain ⟨l, ds, e1, ⟨vs, h1, h2⟩, hs, k⟩ := h
    refine ⟨_, e1, (by show 0 ≤ sizeLine; decide), fun q hq => ?_⟩
    have s := same_upd (o := .lst []) hq
    refine ⟨.list ds, .list [], .lst (SqL.of (s _ _ h1)) (h2.mono s.t).dp, .lst (SqL.of upd_same) .nil, hs, (by decide), _, rfl, ?_⟩
    rw [eqv_nil]
    exact k _ s
theorem pt_notNil {X : Cx} {e : Expr} {i : Nat} {p1 p2 : Pos} (hu : X.A.units + 64 < cLine) (he : PE X e (tVar i)) : PT X (.Compare e [.NotEq] [.List [] p1] p2) (tNilT true i) :=
  PT.imp (pt_cmpR (op_neD hu) he (pe_lst pa_nil) (nomark _)) fun σ H Q h => by
    obtain ⟨l, ds, e1, ⟨vs, h1, h2⟩, hs, k⟩ := h
    refine ⟨_, e1, (by show 0 ≤ sizeLine; decide), fun q hq => ?_⟩
    have s := same_upd (o := .lst []) hq
    refine ⟨.list ds, .list [], .lst (SqL.of (s _ _ h1)) (h2.mono s.t).dp, .lst (SqL.of upd_same) .nil, hs, (by decide), _, rfl, ?_⟩
    rw [eqv_nil]
    exact k _ s
/-- what a kind asks of the spaces and the snapshots that stand -/
def okKd (ns : List Int) (sn : List (Int × Int)) : Kd → Prop
  | .make n _ => n ∉ ns
  | .remove n => n ∈ ns
  | .drop n o => (n, o) ∈ sn
  | _ => True
def spFields : Sp := fun vs H Q _ => ∃ (tp c sp sn : Addr) (cells ns : List Int) (sns : List (Int × Int)), vs = [.ref tp, .ref sp, .ref sn] ∧ TapeAt H tp c cells ∧ H sp = some (.lst (ns.map V.int)) ∧ LstD H sn (sns.map snapD) ∧ sp ≠ tp ∧ sn ≠ tp ∧ ns.length ≤ 1000 ∧ sns.length ≤ 1000 ∧
  ∀ kd v H', Bar [tp] H H' → TapeAt H' tp c cells → Tp H' (.tuple [.str (kname kd), .tuple (fldD kd)]) v → okKd ns sns kd → Q v H'
theorem spaces_test {σ : St} {H : Hp} {sp : Addr} {ns : List Int} {kind : Int} {Q : Bool → Hp → Prop} (e1 : σ[1]? = some (some (V.ref sp))) (e3 : σ[3]? = some (some (V.int kind))) (hsp : H sp = some (.lst (ns.map V.int)))
    (q : ∀ H2, L2.Same H H2 → Q (decide (ns = []) || decide (kind = 0)) H2) : tOr (tNilT false 1) (tTest (tOp rEq (tVar 3) (tC (.int 0)))) σ H Q := by
  refine ⟨sp, ns.map PyData.int, e1, ⟨_, hsp, tp_ints.mpr rfl⟩, shaped_ints ns, fun H2 s2 => ?_⟩
  have q2 := q H2 s2
  cases ns with
  | nil =>
    refine iteT' rfl ?_
    rw [decide_eq_true rfl, Bool.true_or] at q2
    exact q2
  | cons n ns =>
    refine iteF' rfl ?_
    rw [decide_eq_false (fun z => by cases z), Bool.false_or] at q2
    refine ⟨_, e3, rfl, _, rfl, ?_⟩
    have e : decide (V.int kind = V.int 0) = decide (kind = 0) := by simp
    rw [e]
    exact q2
theorem eq_test {σ : St} {H : Hp} {kind j : Int} {Q : Bool → Hp → Prop} (e3 : σ[3]? = some (some (V.int kind))) (q : Q (decide (kind = j)) H) : tTest (tOp rEq (tVar 3) (tC (.int j))) σ H Q := by
  refine ⟨_, e3, rfl, _, rfl, ?_⟩
  have e : decide (V.int kind = V.int j) = decide (kind = j) := by simp
  rw [e]
  exact q
section
variable {P : Program} {w : World} {K : PySem.W.Frag} {mg : Str → Option Value} {base : Heap}
abbrev NF : List Str := ["_law_tape", "_law_spaces", "_law_snaps", "_law_kind", "_law_fresh", "_law_space"]
theorem scFields : FnScope NF ["_law_tape", "_law_spaces", "_law_snaps"] (defScope sFields) := ⟨rfl, rfl, rfl, by decide +kernel, rfl, by decide +kernel, by decide +kernel⟩
theorem ok_fields {f fN : Addr} {fd fdN : FuncData} (F : Fun K "_law_fields" "_law_fields" sFields f fd) (T : Bis mg) (FN : Fun K "_law_next" "_law_next" sNext fN fdN) (gN : mg "_law_next" = some (.ref fN)) (bN : Binds K fdN ["_law_tape", "_law_many"] []) :
    FnOk P w K mg base CX0 2 f fd ["_law_tape", "_law_spaces", "_law_snaps"] spFields := by
  have GN : FnOk P w K mg base CX0 1 fN fdN ["_law_tape", "_law_many"] spNext := ok_next FN T
  refine F.ok scFields (fun vs H Q E h => ?_) (fun cdv A outer s H vs Q E hr h => ?_)
  · obtain ⟨tp, c, sp, sn, cells, ns, sns, rfl, _⟩ := h
    rfl
  · obtain ⟨tp, c, sp, sn, cells, ns, sns, rfl, TA, hsp, hsn, nsp, nsn, hnl, hsl, k⟩ := h
    have nd := scFields.nd
    have hu := hr.units
    refine ⟨_, pss_cons (ps_set (i := 3) nd rfl (.inl rfl) (pe_call GN hr (by rfl) gN FN.kp bN .nil pass0 (pa_cons (pv 0) (pa_cons pe_int pa_nil))))
      (pss_join (ps_if (pw_or (pt_nil hu (pv 1)) (pw_or1 (pt_cmpR op_eq (pv 3) pe_int (nomark _)))).pt
        (pss_cons (ps_setLc (i := 4) (own := [("_law_space", 5)]) (g := gName 5) rfl nd rfl rfl (sw_true rfl rfl rfl (by decide +kernel)) (pi_tup (pe_tup (pa_cons pe_int (pa_cons pe_int (pa_cons pe_int pa_nil))))) (blkOk_by (N := NF) (sc := defScope sFields) (by decide +kernel))
          (fun _ _ _ _ _ => pg_name (i := 5) nd rfl (Or.inl rfl)) (fun _ _ _ _ _ => pts_one (pt_cmpR (show OpR _ (compareOp .NotIn) (rIn K true) from op_notIn_seq) (pv 5) (pv 1) rfl)) (fun _ _ _ _ _ => pv 5))
        (pss_one (ps_if (pt_notNil hu (pv 4)) (pss_one (ps_ret (pe_tup (pa_cons pe_str (pa_cons (pe_tup (pa_cons (pe_ix ix_list (pv 4) (pe_call GN hr (by rfl) gN FN.kp bN .nil pass0 (pa_cons (pv 0) (pa_cons (pe_callB call_len_seq (by rfl) T.len PySem.boot_len (pa_cons (pv 4) pa_nil)) pa_nil))) (fun _ _ => rfl)) (pa_cons pe_int pa_nil))) pa_nil))))) pss_nil))) pss_nil)
      (pss_cons (ps_set (i := 5) nd rfl (.inl rfl) (pe_ix ix_list (pv 1) (pe_call GN hr (by rfl) gN FN.kp bN .nil pass0 (pa_cons (pv 0) (pa_cons (pe_callB call_len_seq (by rfl) T.len PySem.boot_len (pa_cons (pv 1) pa_nil)) pa_nil))) (fun _ _ => rfl)))
      (pss_cons (ps_if (pt_cmpR op_eq (pv 3) pe_int (nomark _)) (pss_one (ps_ret (pe_tup (pa_cons pe_str (pa_cons (pe_tup (pa_cons (pe_ix ix_tup (pe_tup (pa_cons pe_non (pa_cons (pe_tup (pa_cons pe_int (pa_cons (pe_call GN hr (by rfl) gN FN.kp bN .nil pass0 (pa_cons (pv 0) (pa_cons pe_int pa_nil))) (pa_cons (pe_tup (pa_cons pe_str (pa_cons pe_non pa_nil))) pa_nil)))) pa_nil))) (pe_call GN hr (by rfl) gN FN.kp bN .nil pass0 (pa_cons (pv 0) (pa_cons pe_int pa_nil))) (fun _ _ => rfl)) pa_nil)) pa_nil))))) pss_nil)
      (pss_join (ps_if (pw_and (pt_cmpR op_eq (pv 3) pe_int (nomark _)) (pw_and1 (pt_cmpR op_eq (pe_call GN hr (by rfl) gN FN.kp bN .nil pass0 (pa_cons (pv 0) (pa_cons pe_int pa_nil))) pe_int (nomark _)))).pt (pss_one (ps_ret (pe_tup (pa_cons pe_str (pa_cons (pe_tup (pa_cons (pv 5) pa_nil)) pa_nil))))) pss_nil)
      (pss_cons (ps_if (pt_cmpR op_lt (pv 3) pe_int (nomark _)) (pss_one (ps_ret (pe_tup (pa_cons pe_str (pa_cons (pe_tup (pa_cons (pv 5) (pa_cons (pe_call GN hr (by rfl) gN FN.kp bN .nil pass0 (pa_cons (pv 0) (pa_cons pe_int pa_nil))) pa_nil))) pa_nil))))) pss_nil)
      (pss_cons (ps_if (pt_cmpR op_eq (pv 3) pe_int (nomark _)) (pss_one (ps_ret (pe_tup (pa_cons pe_str (pa_cons (pe_tup (pa_cons (pv 5) pa_nil)) pa_nil))))) pss_nil)
      (pss_join (ps_if (pw_and (pt_cmpR op_eq (pv 3) pe_int (nomark _)) (pw_and1 (pt_notNil hu (pv 2)))).pt (pss_one (ps_ret (pe_tup (pa_cons pe_str (pa_cons (pe_ix ix_list (pv 2) (pe_call GN hr (by rfl) gN FN.kp bN .nil pass0 (pa_cons (pv 0) (pa_cons (pe_callB call_len_seq (by rfl) T.len PySem.boot_len (pa_cons (pv 2) pa_nil)) pa_nil))) (fun _ _ => rfl)) pa_nil))))) pss_nil)
      (pss_cons (ps_if (pt_cmpR op_eq (pv 3) pe_int (nomark _)) (pss_one (ps_ret (pe_tup (pa_cons pe_str (pa_cons (pe_tup (pa_cons (pv 5) pa_nil)) pa_nil))))) pss_nil)
      (pss_cons (ps_if (pt_cmpR op_eq (pv 3) pe_int (nomark _)) (pss_one (ps_ret (pe_tup (pa_cons pe_str (pa_cons (pe_tup (pa_cons (pv 5) (pa_cons (pe_ix ix_tup (pe_tup (pa_cons pe_str (pa_cons pe_str pa_nil))) (pe_call GN hr (by rfl) gN FN.kp bN .nil pass0 (pa_cons (pv 0) (pa_cons pe_int pa_nil))) (fun _ _ => rfl)) pa_nil))) pa_nil))))) pss_nil)
      (pss_cons (ps_if (pt_cmpR op_eq (pv 3) pe_int (nomark _)) (pss_one (ps_ret (pe_tup (pa_cons pe_str (pa_cons (pe_tup (pa_cons (pv 5) pa_nil)) pa_nil))))) pss_nil)
      (pss_cons (ps_if (pt_cmpR op_eq (pv 3) pe_int (nomark _)) (pss_one (ps_ret (pe_tup (pa_cons pe_str (pa_cons (pe_tup (pa_cons (pv 5) (pa_cons (pe_call GN hr (by rfl) gN FN.kp bN .nil pass0 (pa_cons (pv 0) (pa_cons pe_int pa_nil))) (pa_cons (pe_ix ix_tup (pe_tup (pa_cons pe_non (pa_cons pe_str (pa_cons pe_str pa_nil)))) (pe_call GN hr (by rfl) gN FN.kp bN .nil pass0 (pa_cons (pv 0) (pa_cons pe_int pa_nil))) (fun _ _ => rfl)) pa_nil)))) pa_nil))))) pss_nil)
      (pss_cons (ps_if (pt_cmpR op_eq (pv 3) pe_int (nomark _)) (pss_one (ps_ret (pe_tup (pa_cons pe_str (pa_cons (pe_tup (pa_cons (pv 5) (pa_cons (pe_cmpR op_eq (pe_call GN hr (by rfl) gN FN.kp bN .nil pass0 (pa_cons (pv 0) (pa_cons pe_int pa_nil))) pe_int (nomark _)) pa_nil))) pa_nil))))) pss_nil)
      (pss_one (ps_ret (pe_tup (pa_cons pe_str (pa_cons (pe_tup (pa_cons (pv 5) (pa_cons (pe_call GN hr (by rfl) gN FN.kp bN .nil pass0 (pa_cons (pv 0) (pa_cons pe_int pa_nil))) (pa_cons (pe_call GN hr (by rfl) gN FN.kp bN .nil pass0 (pa_cons (pv 0) (pa_cons pe_int pa_nil))) pa_nil)))) pa_nil))))))))))))))))), ?_⟩
    have fin : ∀ (H1 : Hp) (kd : Kd) (fs : List V), Bar [tp] H H1 → TapeAt H1 tp c cells → TpAll H1 (fldD kd) fs → okKd ns sns kd → ∀ p1 p2, H1 p1 = none → (upd H1 p1 (.tup fs)) p2 = none →
        Q (.ref p2) (upd (upd H1 p1 (.tup fs)) p2 (.tup [.str (kname kd), .ref p1])) := fun H1 kd fs B1 T1 t ok p1 p2 h1 h2 => by
      have s1 := same_upd (o := .tup fs) h1
      have s2 := same_upd (o := .tup [.str (kname kd), .ref p1]) h2
      refine k kd _ _ (B1.trans ((s1.trans s2).bar _)) (T1.same (s1.trans s2)) (Tp.tup upd_same (TpAll.cons Tp.str (TpAll.one ?_))) ok
      exact Tp.tup (s2 _ _ upd_same) (t.mono (s1.trans s2).t)
    have z1 : 1 ≤ sizeLine := by decide
    have z2 : 2 ≤ sizeLine := by decide
    have z3 : 3 ≤ sizeLine := by decide
    -- kind = next(tape, 17)
    refine ⟨_, rfl, tp, c, cells, 17, rfl, TA, by decide, by decide, fun kind H1 h0 h1 B1 T1 => ?_⟩
    have nspt : sp ∉ [tp] := by simp [nsp]
    have nsnt : sn ∉ [tp] := by simp [nsn]
    refine ⟨fun σ' H' => ∃ x4 x5, σ' = [some (.ref tp), some (.ref sp), some (.ref sn), some (.int kind), x4, x5] ∧ Bar [tp] H H' ∧ TapeAt H' tp c cells ∧ ns ≠ [], ?_, ?_⟩
    · refine spaces_test rfl rfl (B1.keep _ _ hsp nspt) fun H2 s2 => ?_
      have B2 := B1.trans (s2.bar [tp])
      have T2 := T1.same s2
      by_cases hb : ns = [] ∨ kind = 0
      · refine iteT' (by rcases hb with e | e <;> simp [e]) ?_
        refine ⟨z3, fun p hp => ⟨p, rfl, ⟨_, SqT.of upd_same⟩, fun D hD => ?_⟩⟩
        have s3 := same_upd (o := .tup [.int 2, .int 5, .int 8]) hp
        have hp3 : (upd H2 p (.tup [.int 2, .int 5, .int 8])) p = some (.tup (([2, 5, 8] : List Int).map V.int)) := upd_same
        have B3 := B2.trans (s3.bar [tp])
        have T3 := T2.same s3
        generalize upd H2 p (.tup [.int 2, .int 5, .int 8]) = H3 at hD s3 hp3 B3 T3
        have hsp3 : H3 sp = some (.lst (ns.map V.int)) := B3.keep _ _ hsp nspt
        refine lc_tup (xs := ([2, 5, 8] : List Int).map V.int) (fun i H' => H' = upd H3 D (.lst (((([2, 5, 8] : List Int).take i).filter fun z => !ns.contains z).map V.int))) rfl (fun i H' _ e => by rw [e]; exact SqT.of (same_upd hD _ _ hp3)) ?_ ?_
        · rintro i x H' hx rfl
          rw [List.getElem?_map] at hx
          cases hz : ([2, 5, 8] : List Int)[i]? with
          | none => rw [hz] at hx; cases hx
          | some z =>
            rw [hz] at hx
            cases hx
            have tk : ([2, 5, 8] : List Int).take (i + 1) = ([2, 5, 8] : List Int).take i ++ [z] := by
              rw [List.take_add_one, hz]
              rfl
            refine ⟨rfl, _, rfl, _, rfl, sp, ns.map V.int, rfl, .inl (SqL.of (same_upd hD _ _ hsp3)), rfl, flat_ints ns, _, rfl, ?_⟩
            rw [inV_ints]
            cases hc : ns.contains z with
            | true =>
              refine iteF' rfl ?_
              rw [tk, List.filter_append, List.filter_cons, if_neg (by rw [hc]; exact Bool.false_ne_true), List.filter_nil, List.append_nil]
            | false =>
              refine iteT' rfl ?_
              refine ⟨_, rfl, _, upd_same, ?_, ?_⟩
              · have h3 : (([2, 5, 8] : List Int).take i).length ≤ 3 := by rw [List.length_take]; exact Nat.min_le_right _ _
                have h4 := List.length_filter_le (fun z => !ns.contains z) (([2, 5, 8] : List Int).take i)
                rw [List.length_map, sizeLine_eq]
                omega
              · rw [upd_upd, tk, List.filter_append, List.filter_cons, if_pos (by rw [hc]; rfl), List.filter_nil, List.map_append]
                rfl
        · rintro H4 rfl
          rw [List.length_map, List.take_length]
          have s4 := same_upd (o := .lst ((([2, 5, 8] : List Int).filter fun z => !ns.contains z).map V.int)) hD
          have hD4 : (upd H3 D (.lst ((([2, 5, 8] : List Int).filter fun z => !ns.contains z).map V.int))) D = some (.lst ((([2, 5, 8] : List Int).filter fun z => !ns.contains z).map V.int)) := upd_same
          have B4 := B3.trans (s4.bar [tp])
          have T4 := T3.same s4
          generalize upd H3 D (.lst ((([2, 5, 8] : List Int).filter fun z => !ns.contains z).map V.int)) = H4 at hD4 B4 T4
          have ntD : D ∉ [tp] := fun e => by
            obtain ⟨_, _, _, ht, _⟩ := T3.tl
            rw [List.mem_singleton.mp e, ht] at hD
            cases hD
          have mfr : ∀ z ∈ (([2, 5, 8] : List Int).filter fun z => !ns.contains z), z ∉ ns := fun z hz h => by
            have := (List.mem_filter.mp hz).2
            rw [List.contains_iff_mem.mpr h] at this
            cases this
          have lfr : (([2, 5, 8] : List Int).filter fun z => !ns.contains z).length ≤ 3 := List.length_filter_le _ _
          have enil : ns = [] → (([2, 5, 8] : List Int).filter fun z => !ns.contains z) ≠ [] := fun e h => by
            rw [e] at h
            cases h
          generalize (([2, 5, 8] : List Int).filter fun z => !ns.contains z) = fr at hD4 mfr lfr enil
          refine ⟨D, fr.map PyData.int, rfl, ⟨_, hD4, tp_ints.mpr rfl⟩, shaped_ints fr, fun H5 s5 => ?_⟩
          have B5 := B4.trans (s5.bar [tp])
          have T5 := T4.same s5
          have hD5 := s5 _ _ hD4
          cases fr with
          | nil =>
            refine iteF' rfl ?_
            exact ⟨_, _, rfl, B5, T5, fun e => enil e rfl⟩
          | cons f0 fr' =>
            refine iteT' rfl ?_
            refine ⟨_, rfl, _, rfl, _, rfl, D, _, rfl, .inl (SqL.of hD5), tp, c, cells, _, rfl, T5, ?_, ?_, fun j H6 j0 j1 B6 T6 => ?_⟩
            · rw [List.length_map, List.length_cons]
              omega
            · rw [List.length_map]
              have : (((f0 :: fr').length : Nat) : Int) ≤ 3 := by exact_mod_cast lfr
              omega
            · rw [List.length_map] at j1
              have hj : j.toNat < (f0 :: fr').length := by omega
              have hx : ((f0 :: fr').map V.int)[j.toNat]? = some (.int (f0 :: fr')[j.toNat]) := by rw [List.getElem?_map, List.getElem?_eq_getElem hj]; rfl
              have ha := atI_nat hx
              rw [Int.toNat_of_nonneg j0] at ha
              refine ⟨D, _, j, _, rfl, rfl, SqL.of (B6.keep _ _ hD5 ntD), ha, z2, fun p1 hp1 => ⟨z2, fun p2 hp2 => ?_⟩⟩
              exact fin H6 (.make (f0 :: fr')[j.toNat] 4) _ (B5.trans B6) T6 (TpAll.cons Tp.int (TpAll.one Tp.int)) (mfr _ (List.getElem_mem hj)) p1 p2 hp1 hp2
      · have hb' := not_or.mp hb
        refine iteF' (by simp [hb'.1, hb'.2]) ?_
        exact ⟨_, _, rfl, B2, T2, hb'.1⟩
    · rintro σ' H2 ⟨x4, x5, rfl, B2, T2, hne⟩
      have hsp2 : H2 sp = some (.lst (ns.map V.int)) := B2.keep _ _ hsp nspt
      have hnl0 : 0 < ns.length := List.length_pos_iff.mpr hne
      -- space = spaces[next(tape, len(spaces))]
      refine ⟨_, rfl, _, rfl, _, rfl, sp, _, rfl, .inl (SqL.of hsp2), tp, c, cells, _, rfl, T2, ?_, ?_, fun j H3 j0 j1 B3' T3 => ?_⟩
      · rw [List.length_map]
        omega
      · rw [List.length_map]
        omega
      rw [List.length_map] at j1
      have hj : j.toNat < ns.length := by omega
      have hx : (ns.map V.int)[j.toNat]? = some (.int ns[j.toNat]) := by rw [List.getElem?_map, List.getElem?_eq_getElem hj]; rfl
      have ha := atI_nat hx
      rw [Int.toNat_of_nonneg j0] at ha
      have hmem : ns[j.toNat] ∈ ns := List.getElem_mem hj
      have B3 := B2.trans B3'
      refine ⟨sp, _, j, _, rfl, rfl, SqL.of (B3.keep _ _ hsp nspt), ha, ?_⟩
      generalize ns[j.toNat] = nn at hmem
      have e3 : ([some (V.ref tp), some (.ref sp), some (.ref sn), some (.int kind), x4, some (.int nn)] : St)[3]? = some (some (.int kind)) := rfl
      -- mark
      refine eq_test rfl ?_
      by_cases k1 : kind = 1
      · refine iteT' (decide_eq_true k1) ?_
        refine ⟨_, rfl, tp, c, cells, 9, rfl, T3, by decide, by decide, fun k9 H4 a0 a1 B4' T4 => ⟨z2, fun q1 hq1 => ⟨z3, fun q2 hq2 => ⟨z2, fun q3 hq3 => ?_⟩⟩⟩⟩
        have s1 := same_upd (o := .tup [.str "ok", .non]) hq1
        have s2 := same_upd (o := .tup [.int 3, .int k9, .ref q1]) hq2
        have s3 := same_upd (o := .tup [.non, .ref q2]) hq3
        have s123 := s1.trans (s2.trans s3)
        have t2 : Tp (upd (upd (upd H4 q1 (.tup [.str "ok", .non])) q2 (.tup [.int 3, .int k9, .ref q1])) q3 (.tup [.non, .ref q2])) (vlD (.tld k9)) (.ref q2) :=
          Tp.tup (s3 _ _ upd_same) (TpAll.cons Tp.int (TpAll.cons Tp.int (TpAll.one (Tp.tup ((s2.trans s3) _ _ upd_same) (TpAll.cons Tp.str (TpAll.one Tp.non))))))
        have t3 : (upd (upd (upd H4 q1 (.tup [.str "ok", .non])) q2 (.tup [.int 3, .int k9, .ref q1])) q3 (.tup [.non, .ref q2])) q3 = some (.tup [.non, .ref q2]) := upd_same
        have B5 := (B3.trans B4').trans (s123.bar [tp])
        have T5 := T4.same s123
        generalize upd (upd (upd H4 q1 (.tup [.str "ok", .non])) q2 (.tup [.int 3, .int k9, .ref q1])) q3 (.tup [.non, .ref q2]) = H5 at t2 t3 B5 T5
        refine ⟨_, rfl, tp, c, cells, 2, rfl, T5, by decide, by decide, fun k2 H6 b0 b1 B6 T6 => ?_⟩
        have h2 : k2 = 0 ∨ k2 = 1 := by omega
        rcases h2 with rfl | rfl
        · refine ⟨q3, _, 0, _, rfl, rfl, SqT.of (B6.t _ _ t3), atI_nat (j := 0) rfl, z1, fun p1 hp1 => ⟨z2, fun p2 hp2 => ?_⟩⟩
          exact fin H6 (.mark none) _ (B5.trans B6) T6 (TpAll.one Tp.non) trivial p1 p2 hp1 hp2
        · refine ⟨q3, _, 1, _, rfl, rfl, SqT.of (B6.t _ _ t3), atI_nat (j := 1) rfl, z1, fun p1 hp1 => ⟨z2, fun p2 hp2 => ?_⟩⟩
          exact fin H6 (.mark (some k9)) _ (B5.trans B6) T6 (TpAll.one (t2.mono B6.t)) trivial p1 p2 hp1 hp2
      refine iteF' (decide_eq_false k1) ?_
      -- remove
      refine ⟨fun σ' H' => σ' = [some (.ref tp), some (.ref sp), some (.ref sn), some (.int kind), x4, some (.int nn)] ∧ Bar [tp] H H' ∧ TapeAt H' tp c cells, ?_, ?_⟩
      · refine eq_test rfl ?_
        by_cases k2 : kind = 2
        · refine iteT' (decide_eq_true k2) ?_
          refine ⟨_, rfl, tp, c, cells, 2, rfl, T3, by decide, by decide, fun j2 H4 a0 a1 B4' T4 => ⟨rfl, _, rfl, ?_⟩⟩
          by_cases hj2 : j2 = 0
          · refine iteT' (by rw [hj2]; rfl) ?_
            refine ⟨_, rfl, z1, fun p1 hp1 => ⟨z2, fun p2 hp2 => ?_⟩⟩
            exact fin H4 (.remove nn) _ (B3.trans B4') T4 (TpAll.one Tp.int) hmem p1 p2 hp1 hp2
          · refine iteF' (decide_eq_false fun e => hj2 (by injection e)) ?_
            exact ⟨rfl, B3.trans B4', T4⟩
        · refine iteF' (decide_eq_false k2) ?_
          refine iteF' rfl ?_
          exact ⟨rfl, B3, T3⟩
      rintro σ' H4 ⟨rfl, B4, T4⟩
      -- trim
      refine ⟨_, rfl, kind, 6, rfl, rfl, _, rfl, ?_⟩
      by_cases k6 : kind < 6
      · refine iteT' (decide_eq_true k6) ?_
        refine ⟨_, rfl, _, rfl, tp, c, cells, 4, rfl, T4, by decide, by decide, fun j4 H5 a0 a1 B5 T5 => ⟨z2, fun p1 hp1 => ⟨z2, fun p2 hp2 => ?_⟩⟩⟩
        exact fin H5 (.trim nn j4) _ (B4.trans B5) T5 (TpAll.cons Tp.int (TpAll.one Tp.int)) trivial p1 p2 hp1 hp2
      refine iteF' (decide_eq_false k6) ?_
      -- snap
      refine eq_test rfl ?_
      by_cases k7 : kind = 6
      · refine iteT' (decide_eq_true k7) ?_
        refine ⟨_, rfl, z1, fun p1 hp1 => ⟨z2, fun p2 hp2 => ?_⟩⟩
        exact fin H4 (.snap nn) _ B4 T4 (TpAll.one Tp.int) trivial p1 p2 hp1 hp2
      refine iteF' (decide_eq_false k7) ?_
      -- drop
      refine ⟨fun σ' H' => σ' = [some (.ref tp), some (.ref sp), some (.ref sn), some (.int kind), x4, some (.int nn)] ∧ Bar [tp] H H' ∧ TapeAt H' tp c cells, ?_, ?_⟩
      · refine eq_test rfl ?_
        by_cases k8 : kind = 7
        · refine iteT' (decide_eq_true k8) ?_
          have hsn4 := hsn.bar B4 nsnt
          refine ⟨sn, _, rfl, hsn4, shaped_snaps sns, fun H5 s5 => ?_⟩
          have B5 := B4.trans (s5.bar [tp])
          have T5 := T4.same s5
          cases sns with
          | nil =>
            refine iteF' rfl ?_
            exact ⟨rfl, B5, T5⟩
          | cons z0 zs =>
            refine iteT' rfl ?_
            obtain ⟨vs, hv1, hv2⟩ := hsn4.mono s5
            have hvl := hv2.length
            rw [List.length_map] at hvl
            refine ⟨_, rfl, _, rfl, _, rfl, sn, vs, rfl, .inl (SqL.of hv1), tp, c, cells, _, rfl, T5, ?_, ?_, fun j H6 j0 j1 B6 T6 => ?_⟩
            · rw [List.length_cons] at hvl
              omega
            · omega
            have hj : j.toNat < (z0 :: zs).length := by omega
            obtain ⟨u, hu1, hu2⟩ := hv2.get (i := j.toNat) (d := snapD (z0 :: zs)[j.toNat]) (by rw [List.getElem?_map, List.getElem?_eq_getElem hj]; rfl)
            have ha := atI_nat hu1
            rw [Int.toNat_of_nonneg j0] at ha
            refine ⟨sn, vs, j, u, rfl, rfl, SqL.of (B6.keep _ _ hv1 nsnt), ha, z2, fun p2 hp2 => ?_⟩
            have s7 := same_upd (o := .tup [.str "drop", u]) hp2
            refine k (.drop (z0 :: zs)[j.toNat].1 (z0 :: zs)[j.toNat].2) _ _ ((B5.trans B6).trans (s7.bar _)) (T6.same s7) (Tp.tup upd_same (TpAll.cons Tp.str (TpAll.one (hu2.mono (B6.t.trans s7.t))))) ?_
            show ((z0 :: zs)[j.toNat].1, (z0 :: zs)[j.toNat].2) ∈ z0 :: zs
            exact List.getElem_mem hj
        · refine iteF' (decide_eq_false k8) ?_
          refine iteF' rfl ?_
          exact ⟨rfl, B4, T4⟩
      rintro σ' H5 ⟨rfl, B5, T5⟩
      -- register
      refine eq_test rfl ?_
      by_cases k8 : kind = 8
      · refine iteT' (decide_eq_true k8) ?_
        refine ⟨_, rfl, z1, fun p1 hp1 => ⟨z2, fun p2 hp2 => ?_⟩⟩
        exact fin H5 (.register nn) _ B5 T5 (TpAll.one Tp.int) trivial p1 p2 hp1 hp2
      refine iteF' (decide_eq_false k8) ?_
      -- reserve
      refine eq_test rfl ?_
      by_cases k9 : kind = 9
      · refine iteT' (decide_eq_true k9) ?_
        refine ⟨_, rfl, z2, fun q1 hq1 => ?_⟩
        have s1 := same_upd (o := .tup [.str "write", .str "alone"]) hq1
        have t1 : (upd H5 q1 (.tup [.str "write", .str "alone"])) q1 = some (.tup [.str "write", .str "alone"]) := upd_same
        refine ⟨_, rfl, tp, c, cells, 2, rfl, T5.same s1, by decide, by decide, fun k2 H6 b0 b1 B6 T6 => ?_⟩
        have BB := (B5.trans (s1.bar [tp])).trans B6
        have h2 : k2 = 0 ∨ k2 = 1 := by omega
        rcases h2 with rfl | rfl
        · refine ⟨q1, _, 0, _, rfl, rfl, SqT.of (B6.t _ _ t1), atI_nat (j := 0) rfl, z2, fun p1 hp1 => ⟨z2, fun p2 hp2 => ?_⟩⟩
          exact fin H6 (.reserve nn true) _ BB T6 (TpAll.cons Tp.int (TpAll.one Tp.str)) trivial p1 p2 hp1 hp2
        · refine ⟨q1, _, 1, _, rfl, rfl, SqT.of (B6.t _ _ t1), atI_nat (j := 1) rfl, z2, fun p1 hp1 => ⟨z2, fun p2 hp2 => ?_⟩⟩
          exact fin H6 (.reserve nn false) _ BB T6 (TpAll.cons Tp.int (TpAll.one Tp.str)) trivial p1 p2 hp1 hp2
      refine iteF' (decide_eq_false k9) ?_
      -- release
      refine eq_test rfl ?_
      by_cases k10 : kind = 10
      · refine iteT' (decide_eq_true k10) ?_
        refine ⟨_, rfl, z1, fun p1 hp1 => ⟨z2, fun p2 hp2 => ?_⟩⟩
        exact fin H5 (.release nn) _ B5 T5 (TpAll.one Tp.int) trivial p1 p2 hp1 hp2
      refine iteF' (decide_eq_false k10) ?_
      -- preempt
      refine eq_test rfl ?_
      by_cases k11 : kind = 11
      · refine iteT' (decide_eq_true k11) ?_
        refine ⟨_, rfl, _, rfl, tp, c, cells, 4, rfl, T5, by decide, by decide, fun j4 H6 a0 a1 B6 T6 => ⟨z3, fun q1 hq1 => ?_⟩⟩
        have s1 := same_upd (o := .tup [.non, .str "write", .str "alone"]) hq1
        have t1 : (upd H6 q1 (.tup [.non, .str "write", .str "alone"])) q1 = some (.tup [.non, .str "write", .str "alone"]) := upd_same
        refine ⟨_, rfl, tp, c, cells, 3, rfl, T6.same s1, by decide, by decide, fun k2 H7 b0 b1 B7 T7 => ?_⟩
        have BB := ((B5.trans B6).trans (s1.bar [tp])).trans B7
        have h2 : k2 = 0 ∨ k2 = 1 ∨ k2 = 2 := by omega
        rcases h2 with rfl | rfl | rfl
        · refine ⟨q1, _, 0, _, rfl, rfl, SqT.of (B7.t _ _ t1), atI_nat (j := 0) rfl, z3, fun p1 hp1 => ⟨z2, fun p2 hp2 => ?_⟩⟩
          exact fin H7 (.preempt nn j4 none) _ BB T7 (TpAll.cons Tp.int (TpAll.cons Tp.int (TpAll.one Tp.non))) trivial p1 p2 hp1 hp2
        · refine ⟨q1, _, 1, _, rfl, rfl, SqT.of (B7.t _ _ t1), atI_nat (j := 1) rfl, z3, fun p1 hp1 => ⟨z2, fun p2 hp2 => ?_⟩⟩
          exact fin H7 (.preempt nn j4 (some true)) _ BB T7 (TpAll.cons Tp.int (TpAll.cons Tp.int (TpAll.one Tp.str))) trivial p1 p2 hp1 hp2
        · refine ⟨q1, _, 2, _, rfl, rfl, SqT.of (B7.t _ _ t1), atI_nat (j := 2) rfl, z3, fun p1 hp1 => ⟨z2, fun p2 hp2 => ?_⟩⟩
          exact fin H7 (.preempt nn j4 (some false)) _ BB T7 (TpAll.cons Tp.int (TpAll.cons Tp.int (TpAll.one Tp.str))) trivial p1 p2 hp1 hp2
      refine iteF' (decide_eq_false k11) ?_
      -- leave
      refine eq_test rfl ?_
      by_cases k12 : kind = 12
      · refine iteT' (decide_eq_true k12) ?_
        refine ⟨_, rfl, _, rfl, tp, c, cells, 2, rfl, T5, by decide, by decide, fun j2 H6 a0 a1 B6 T6 => ⟨rfl, z2, fun p1 hp1 => ⟨z2, fun p2 hp2 => ?_⟩⟩⟩
        exact fin H6 (.leave nn (decide (V.int j2 = V.int 0))) _ (B5.trans B6) T6 (TpAll.cons Tp.int (TpAll.one Tp.bl)) trivial p1 p2 hp1 hp2
      refine iteF' (decide_eq_false k12) ?_
      -- write
      refine ⟨_, rfl, _, rfl, tp, c, cells, 4, rfl, T5, by decide, by decide, fun j4 H6 a0 a1 B6 T6 => ⟨_, rfl, tp, c, cells, 5, rfl, T6, by decide, by decide, fun j5 H7 b0 b1 B7 T7 => ⟨z3, fun p1 hp1 => ⟨z2, fun p2 hp2 => ?_⟩⟩⟩⟩
      exact fin H7 (.write nn j4 j5) _ ((B5.trans B6).trans B7) T7 (TpAll.cons Tp.int (TpAll.cons Tp.int (TpAll.one Tp.int))) trivial p1 p2 hp1 hp2
end
end K13
/-! ## K13P -/
/-! The law's records. -/
namespace K13
open PySem L2
abbrev sRecs : Stmt := top 19
/-- l.remove(x), x there -/
def rRemD : V → List V → Hp → VK → Prop := fun x xs H Q => ∃ (l : Addr) (vs : List V) (y : V) (ds : List PyData) (d : PyData) (j : Nat), x = .ref l ∧ xs = [y] ∧ H l = some (.lst vs) ∧ TpAll H ds vs ∧ Tp H d y ∧ PyData.plainAll ds = true ∧ d.plain = true ∧ d.depth ≤ 7 ∧
  SeqAt.dataPlace ds d = some j ∧ Q .non (upd H l (.lst (vs.eraseIdx j)))
theorem mt_remD {X : Cx} (hu : X.A.units + 64 < cLine) : MtR X "list.remove" rRemD := by
  rintro pins s σ H x xs v us Q I rx rxs ⟨l, vs, y, ds, d, j, rfl, rfl, hl, tl, ty, pl, pd, dd, hp, q⟩
  cases rx
  obtain ⟨u, rfl, ry⟩ := Vals.one rxs
  obtain ⟨few, its, n, r, e1, e2⟩ := I.lstM hl
  obtain ⟨as, r1⟩ := Dp.readsAll I ds vs its tl.dp r
  obtain ⟨bs, r2⟩ := Dp.reads I d y u ty.dp ry
  refine SeqAt.remove_list_data (vs := its.toArray) ⟨_, e2, rfl, n, rfl⟩ r1 r2 pl pd ?_ hp (by rw [List.size_toArray]; omega) ?_
  · have : min (PyData.depthAll ds) d.depth ≤ d.depth := Nat.min_le_right _ _
    omega
  · refine ⟨.non, _, I.lset (t' := s.toks) (its' := its.eraseIdx j) hl e2 ?_ (r.eraseIdx j) ?_, rfl, q⟩
    · rw [List.eraseIdxIfInBounds_toArray]
    · exact Nat.le_trans (len_erase _ _) few
end K13
/-! ## K13P2 -/
namespace K13
open PySem L2
/-- what stands between two turns -/
structure RecS (H0 H : Hp) (tp c lr sp sn : Addr) (cells : List Int) (L : List Rec) (ns : List Int) (sns : List (Int × Int)) (m : Nat) : Prop where
  bar : Bar [tp] H0 H
  ta : TapeAt H tp c cells
  hl : LstD H lr (L.map recD)
  hs : H sp = some (.lst (ns.map V.int))
  hn : LstD H sn (sns.map snapD)
  f1 : H0 lr = none
  f2 : H0 sp = none
  f3 : H0 sn = none
  d1 : lr ≠ sp
  d2 : lr ≠ sn
  d3 : sp ≠ sn
  n1 : ns.length ≤ m
  n2 : sns.length ≤ m
  t0 : TapeAt H0 tp c cells
section
variable {H0 H H2 : Hp} {tp c lr sp sn : Addr} {cells : List Int} {L : List Rec} {ns : List Int} {sns : List (Int × Int)} {m : Nat}
theorem RecS.lt (R : RecS H0 H tp c lr sp sn cells L ns sns m) : lr ≠ tp ∧ sp ≠ tp ∧ sn ≠ tp := by
  obtain ⟨_, _, _, h, _⟩ := R.t0.tl
  refine ⟨fun e => ?_, fun e => ?_, fun e => ?_⟩
  · have := R.f1; rw [e, h] at this; cases this
  · have := R.f2; rw [e, h] at this; cases this
  · have := R.f3; rw [e, h] at this; cases this
theorem RecS.lc (R : RecS H0 H tp c lr sp sn cells L ns sns m) : lr ≠ c ∧ sp ≠ c ∧ sn ≠ c := by
  have h := R.t0.cl
  refine ⟨fun e => ?_, fun e => ?_, fun e => ?_⟩
  · have := R.f1; rw [e, h] at this; cases this
  · have := R.f2; rw [e, h] at this; cases this
  · have := R.f3; rw [e, h] at this; cases this
theorem RecS.tape (R : RecS H0 H tp c lr sp sn cells L ns sns m) (B : Bar [tp] H H2) (T : TapeAt H2 tp c cells) : RecS H0 H2 tp c lr sp sn cells L ns sns m := by
  obtain ⟨h1, h2, h3⟩ := R.lt
  exact ⟨R.bar.trans B, T, R.hl.bar B (by simp [h1]), B.keep _ _ R.hs (by simp [h2]), R.hn.bar B (by simp [h3]), R.f1, R.f2, R.f3, R.d1, R.d2, R.d3, R.n1, R.n2, R.t0⟩
theorem RecS.same (R : RecS H0 H tp c lr sp sn cells L ns sns m) (s : L2.Same H H2) : RecS H0 H2 tp c lr sp sn cells L ns sns m := R.tape (s.bar _) (R.ta.same s)
theorem bar_new {l : Addr} (B : Bar [tp] H0 H) (f : H0 l = none) (b : Bar [l] H H2) : Bar [tp] H0 H2 :=
  ⟨fun x o e n => b.keep _ _ (B.keep _ _ e n) (fun z => by rw [List.mem_singleton.mp z, f] at e; cases e), B.t.trans b.t, fun x e => B.free x (b.free x e)⟩
theorem RecS.putL (R : RecS H0 H tp c lr sp sn cells L ns sns m) (b : Bar [lr] H H2) {L' : List Rec} (h : LstD H2 lr (L'.map recD)) : RecS H0 H2 tp c lr sp sn cells L' ns sns m := by
  obtain ⟨h1, h2, h3⟩ := R.lt
  obtain ⟨c1, c2, c3⟩ := R.lc
  exact ⟨bar_new R.bar R.f1 b, R.ta.bar b (by simp [h1.symm]) (by simp [c1.symm]), h, b.keep _ _ R.hs (by simp [R.d1.symm]), R.hn.bar b (by simp [R.d2.symm]), R.f1, R.f2, R.f3, R.d1, R.d2, R.d3, R.n1, R.n2, R.t0⟩
theorem RecS.putS (R : RecS H0 H tp c lr sp sn cells L ns sns m) {ns' : List Int} (hl : ns'.length ≤ m) : RecS H0 (upd H sp (.lst (ns'.map V.int))) tp c lr sp sn cells L ns' sns m := by
  obtain ⟨h1, h2, h3⟩ := R.lt
  obtain ⟨c1, c2, c3⟩ := R.lc
  have b : Bar [sp] H (upd H sp (.lst (ns'.map V.int))) := Bar.lst R.hs
  exact ⟨bar_new R.bar R.f2 b, R.ta.bar b (by simp [h2.symm]) (by simp [c2.symm]), R.hl.bar b (by simp [R.d1]), upd_same, R.hn.bar b (by simp [R.d3.symm]), R.f1, R.f2, R.f3, R.d1, R.d2, R.d3, hl, R.n2, R.t0⟩
theorem RecS.putN (R : RecS H0 H tp c lr sp sn cells L ns sns m) (b : Bar [sn] H H2) {sns' : List (Int × Int)} (h : LstD H2 sn (sns'.map snapD)) (hl : sns'.length ≤ m) : RecS H0 H2 tp c lr sp sn cells L ns sns' m := by
  obtain ⟨h1, h2, h3⟩ := R.lt
  obtain ⟨c1, c2, c3⟩ := R.lc
  exact ⟨bar_new R.bar R.f3 b, R.ta.bar b (by simp [h3.symm]) (by simp [c3.symm]), R.hl.bar b (by simp [R.d2]), b.keep _ _ R.hs (by simp [R.d3]), h, R.f1, R.f2, R.f3, R.d1, R.d2, R.d3, R.n1, hl, R.t0⟩
theorem RecS.newN (R : RecS H0 H tp c lr sp sn cells L ns sns m) (s : L2.Same H H2) {sn' : Addr} (f : H sn' = none) {sns' : List (Int × Int)} (h : LstD H2 sn' (sns'.map snapD)) (hl : sns'.length ≤ m) : RecS H0 H2 tp c lr sp sn' cells L ns sns' m := by
  have R2 := R.same s
  obtain ⟨vs, h1, _⟩ := R.hl
  exact ⟨R2.bar, R2.ta, R2.hl, R2.hs, h, R.f1, R.f2, R.bar.free _ f, R.d1, ne_of_none h1 f, ne_of_none R.hs f, R.n1, hl, R.t0⟩
theorem RecS.mono (R : RecS H0 H tp c lr sp sn cells L ns sns m) {n : Nat} (h : m ≤ n) : RecS H0 H tp c lr sp sn cells L ns sns n :=
  ⟨R.bar, R.ta, R.hl, R.hs, R.hn, R.f1, R.f2, R.f3, R.d1, R.d2, R.d3, Nat.le_trans R.n1 h, Nat.le_trans R.n2 h, R.t0⟩
end
theorem map_erase {α β : Type} (f : α → β) : ∀ (l : List α) (j : Nat), (l.map f).eraseIdx j = (l.eraseIdx j).map f
  | [], j => by simp
  | x :: l, 0 => rfl
  | x :: l, j + 1 => by
    simp only [List.map_cons, List.eraseIdx_cons_succ, map_erase f l j]
theorem plain_ints (ks : List Int) : PyData.plainAll (ks.map PyData.int) = true := by
  induction ks with
  | nil => simp [PyData.plainAll]
  | cons k ks ih => simp [PyData.plainAll, PyData.plain, ih]
theorem plain_snaps (ks : List (Int × Int)) : PyData.plainAll (ks.map snapD) = true := by
  induction ks with
  | nil => simp [PyData.plainAll]
  | cons k ks ih => simp [PyData.plainAll, PyData.plain, snapD, ih]
theorem place_of {ds : List PyData} {d : PyData} (h : d ∈ ds) (e : PyData.eqv d d = true) : ∃ j, SeqAt.dataPlace ds d = some j := by
  cases q : SeqAt.dataPlace ds d with
  | some j => exact ⟨j, rfl⟩
  | none =>
    have := List.findIdx?_eq_none_iff.mp q d h
    simp [e] at this
theorem erase_len {α : Type} (l : List α) (j : Nat) : (l.eraseIdx j).length ≤ l.length := by
  rw [List.length_eraseIdx]
  split <;> omega
theorem TpAll.erase {H : Hp} : ∀ (j : Nat) {ds : List PyData} {xs : List V}, TpAll H ds xs → TpAll H (ds.eraseIdx j) (xs.eraseIdx j)
  | j, [], _, h => by
    simp only [TpAll] at h
    subst h
    simpa using TpAll.nil
  | 0, d :: ds, _, h => by
    simp only [TpAll] at h
    obtain ⟨x, r, rfl, h2, h3⟩ := h
    exact h3
  | j + 1, d :: ds, _, h => by
    simp only [TpAll] at h
    obtain ⟨x, r, rfl, h2, h3⟩ := h
    rw [List.eraseIdx_cons_succ, List.eraseIdx_cons_succ]
    exact TpAll.cons h2 (TpAll.erase j h3)
theorem fldD_ne (kd : Kd) : fldD kd ≠ [] := by cases kd <;> exact fun z => by cases z
theorem fldD_len (kd : Kd) : (fldD kd).length ≤ 3 := by cases kd <;> simp [fldD]
def spRecs : Sp := fun vs H Q _ => ∃ (tp c : Addr) (cells : List Int) (most : Int), vs = [.ref tp, .int most] ∧ TapeAt H tp c cells ∧ 0 < most ∧ most ≤ 30 ∧
  ∀ l (L : List Rec) H', Bar [tp] H H' → TapeAt H' tp c cells → H l = none → LstD H' l (L.map recD) → Asc L → L.length ≤ 30 → Q (.ref l) H'
abbrev NR : List Str := ["_law_tape", "_law_most", "_law_records_here", "_law_spaces", "_law_snaps", "_law_order", "_law_turn", "_law_kind", "_law_fields_here", "_law_counter", "_law_snap"]
section
variable {P : Program} {w : World} {K : PySem.W.Frag} {mg : Str → Option Value} {base : Heap}
theorem scRecs : FnScope NR ["_law_tape", "_law_most"] (defScope sRecs) := ⟨rfl, rfl, rfl, by decide +kernel, rfl, by decide +kernel, by decide +kernel⟩
theorem ok_recs {f fN fF : Addr} {fd fdN fdF : FuncData} (F : Fun K "_law_records" "_law_records" sRecs f fd) (T : Bis mg) (FN : Fun K "_law_next" "_law_next" sNext fN fdN) (gN : mg "_law_next" = some (.ref fN)) (bN : Binds K fdN ["_law_tape", "_law_many"] [])
    (GF : FnOk P w K mg base CX0 2 fF fdF ["_law_tape", "_law_spaces", "_law_snaps"] spFields) (gF : mg "_law_fields" = some (.ref fF)) (kF : PySem.W.keepIn K (.ref fF) = true) (bF : Binds K fdF ["_law_tape", "_law_spaces", "_law_snaps"] []) :
    FnOk P w K mg base CX0 3 f fd ["_law_tape", "_law_most"] spRecs := by
  have GN : FnOk P w K mg base CX0 1 fN fdN ["_law_tape", "_law_many"] spNext := ok_next FN T
  refine F.ok scRecs (fun vs H Q E h => ?_) (fun cdv A outer s H vs Q E hr2 h => ?_)
  · obtain ⟨tp, c, cells, most, rfl, _⟩ := h
    rfl
  · obtain ⟨tp, c, cells, most, rfl, TA, hm0, hm1, k⟩ := h
    have nd := scRecs.nd
    have hr := hr2.mono (show 1 ≤ 2 by decide)
    have hu := hr.units
    refine ⟨_, pss_cons (ps_set (i := 2) nd rfl (.inl rfl) (pe_lst pa_nil))
      (pss_cons (ps_set (i := 3) nd rfl (.inl rfl) (pe_lst pa_nil))
      (pss_cons (ps_set (i := 4) nd rfl (.inl rfl) (pe_lst pa_nil))
      (pss_cons (ps_set (i := 5) nd rfl (.inl rfl) pe_int)
      (pss_cons (ps_for PassesOwn.never rfl (pi_range1 (by rfl) T.range (pa_cons (pe_op op_add pe_int (pe_call GN hr (by rfl) gN FN.kp bN .nil pass0 (pa_cons (pv 0) (pa_cons (pv 1) pa_nil)))) pa_nil)) (pg_name (i := 6) nd rfl (.inl rfl))
        (pss_cons (ps_set (i := 5) nd rfl (.inl rfl) (pe_op op_add (pe_op op_add (pv 5) pe_int) (pe_op op_fdiv (pe_call GN hr (by rfl) gN FN.kp bN .nil pass0 (pa_cons (pv 0) (pa_cons pe_int pa_nil))) pe_int)))
        (pss_cons (ps_asg (pe_call GF hr2 (by rfl) gF kF bF .nil pass0 (pa_cons (pv 0) (pa_cons (pv 3) (pa_cons (pv 4) pa_nil)))) (pg_tup rfl (pgs_cons (pg_name (i := 7) nd rfl (.inl rfl)) (pgs_cons (pg_name (i := 8) nd rfl (.inr rfl)) pgs_nil))))
        (pss_cons (ps_set (i := 9) nd rfl (.inl rfl) (pe_op op_mod (pv 6) pe_int))
        (pss_join (ps_if (pt_seq (pr_var 7) pr_str) (pss_one (ps_set (i := 9) nd rfl (.inl rfl) pe_int)) (pss_one (ps_if (pt_cmpR op_eq (pv 9) pe_int (nomark _)) (pss_one (ps_set (i := 9) nd rfl (.inl rfl) pe_int)) pss_nil)))
        (pss_cons (ps_expr (pe_bm PySem.F.plainAttrs_list PySem.F.slot_list_append PySem.F.type_list_append mt_append (pv 2) (pa_cons (pe_op op_catA (pe_tup (pa_cons (pv 5) (pa_cons (pv 7) (pa_cons (pe_call GN hr (by rfl) gN FN.kp bN .nil pass0 (pa_cons (pv 0) (pa_cons pe_int pa_nil))) (pa_cons (pe_op op_add pe_int (pe_op op_fdiv (pv 6) pe_int)) (pa_cons (pv 9) pa_nil))))))
            (pe_callTy call_tupleT (by rfl) T.tuple (by decide +kernel) (pa_cons (pv 8) pa_nil))) pa_nil)))
        (pss_join (ps_if (pt_seq (pr_var 7) pr_str) (pss_one (ps_expr (pe_bm PySem.F.plainAttrs_list PySem.F.slot_list_append PySem.F.type_list_append mt_append (pv 3) (pa_cons (pr_ix (pr_var 8)) pa_nil)))) pss_nil)
        (pss_join (ps_if (pt_seq (pr_var 7) pr_str) (pss_one (ps_expr (pe_bm PySem.F.plainAttrs_list PySem.F.slot_list_append PySem.F.type_list_append mt_append (pv 4) (pds_cons (pd_tup (pds_cons (pd_ix (pr_var 8)) (pds_cons (pd_var 5) pds_nil))) pds_nil)))) pss_nil)
        (pss_join (ps_if (pt_seq (pr_var 7) pr_str)
          (pss_cons (ps_expr (pe_bm PySem.F.plainAttrs_list PySem.F.slot_list_remove PySem.F.type_list_remove (mt_remD hu) (pv 3) (pa_cons (pr_ix (pr_var 8)) pa_nil)))
          (pss_one (ps_setLc (i := 4) (own := [("_law_snap", 10)]) (g := gName 10) rfl nd rfl rfl (sw_true rfl rfl rfl (by decide +kernel)) (pi_list (pv 4)) (blkOk_by (N := NR) (sc := defScope sRecs) (by decide +kernel))
            (fun _ _ _ _ _ => pg_name (i := 10) nd rfl (Or.inl rfl)) (fun _ _ _ _ _ => pts_one (pt_icmp (p := fun i j => !decide (i = j)) op_neI (nomark _) (pr_ix (pr_var 10)) (pr_ix (pr_var 8)))) (fun _ _ _ _ _ => pv 10)))) pss_nil)
        (pss_one (ps_if (pt_seq (pr_var 7) pr_str) (pss_one (ps_expr (pe_bm PySem.F.plainAttrs_list PySem.F.slot_list_remove PySem.F.type_list_remove (mt_remD hu) (pv 4) (pa_cons (pr_var 8) pa_nil)))) pss_nil)))))))))))
      (pss_one (ps_ret (pv 2))))))), ?_⟩
    -- the three lists
    have z0 : 0 ≤ sizeLine := Nat.zero_le _
    refine ⟨z0, fun lr hlr => ⟨z0, fun sp hsp => ⟨z0, fun sn hsn => ?_⟩⟩⟩
    have s1 := same_upd (o := .lst []) hlr
    have s2 := same_upd (o := .lst []) hsp
    have s3 := same_upd (o := .lst []) hsn
    have hsp0 : H sp = none := s1.free hsp
    have hsn1 : (upd H lr (.lst [])) sn = none := s2.free hsn
    have d1 : lr ≠ sp := fun e => by rw [← e, upd_same] at hsp; cases hsp
    have d2 : lr ≠ sn := fun e => by rw [← e, upd_same] at hsn1; cases hsn1
    have d3 : sp ≠ sn := fun e => by rw [← e, upd_same] at hsn; cases hsn
    have s123 := s1.trans (s2.trans s3)
    have R0 : RecS H (upd (upd (upd H lr (.lst [])) sp (.lst [])) sn (.lst [])) tp c lr sp sn cells [] [] [] 0 :=
      ⟨s123.bar _, TA.same s123, ⟨[], (s2.trans s3) _ _ upd_same, TpAll.nil⟩, s3 _ _ upd_same, ⟨[], upd_same, TpAll.nil⟩, hlr, hsp0, s1.free hsn1, d1, d2, d3, Nat.le_refl _, Nat.le_refl _, TA⟩
    generalize upd (upd (upd H lr (.lst [])) sp (.lst [])) sn (.lst []) = H1 at R0
    -- for turn in range(1 + next(tape, most))
    refine ⟨_, rfl, _, rfl, tp, c, cells, most, rfl, R0.ta, hm0, by omega, fun k0 H2 a0 a1 B1 T1 => ⟨1, k0, rfl, rfl, _, rfl, ?_, ?_, ?_⟩⟩
    · show -(2 ^ 62) ≤ 1 + k0
      omega
    · show 1 + k0 < 2 ^ 62
      omega
    have hn30 : ((fun i j : Int => i + j) 1 k0).toNat ≤ 30 := by show (1 + k0).toNat ≤ 30; omega
    generalize ((fun i j : Int => i + j) 1 k0).toNat = nn at hn30
    refine for_range (lo := 0) (n := nn) (fun i σ' H' => ∃ (L : List Rec) (ns : List Int) (sns : List (Int × Int)) (sn : Addr) (o : Int) (x6 x7 x8 x9 x10 : Option V), RecS H H' tp c lr sp sn cells L ns sns i ∧ Asc L ∧ L.length = i ∧ (∀ r ∈ L, r.ord ≤ o) ∧
        σ' = [some (.ref tp), some (.int most), some (.ref lr), some (.ref sp), some (.ref sn), some (.int o), x6, x7, x8, x9, x10])
      ⟨[], [], [], sn, 0, none, none, none, none, none, R0.tape B1 T1, List.Pairwise.nil, rfl, (fun r hr => by cases hr), rfl⟩ ?_ ?_
    · rintro i σ' H' hi ⟨L, ns, sns, sn, o, x6, x7, x8, x9, x10, R, hA, hL, ho, rfl⟩
      obtain ⟨ltr, lts, ltn⟩ := R.lt
      -- order
      refine ⟨_, rfl, o, 1, rfl, rfl, _, rfl, tp, c, cells, 5, rfl, R.ta, by decide, by decide, fun k5 H3 b0 b1 B3 T3 => ⟨k5, 4, rfl, rfl, ⟨by decide, by decide⟩, _, _, rfl, rfl, ?_⟩⟩
      have R3 := R.tape B3 T3
      have hord : o < o + 1 + k5 / 4 := by omega
      -- kind, fields
      refine ⟨_, rfl, _, rfl, _, rfl, tp, c, sp, sn, cells, ns, sns, rfl, R3.ta, R3.hs, R3.hn, lts, ltn, Nat.le_trans R3.n1 (by omega), Nat.le_trans R3.n2 (by omega), fun kd v H4 B4 T4 tv ok => ?_⟩
      have R4 := R3.tape B4 T4
      obtain ⟨pa, xs, rfl, h2, h3⟩ := tv.out
      simp only [TpAll] at h3
      obtain ⟨kv, _, rfl, hk1, fv, _, rfl, hk2, rfl⟩ := h3
      rw [hk1.str_of] at h2
      refine ⟨pa, _, rfl, SqT.of h2, rfl, _, _, rfl, _, _, rfl, rfl, ?_⟩
      obtain ⟨fa, fs, rfl, hfa, hfs⟩ := hk2.out
      -- counter
      refine ⟨_, rfl, _, 9, rfl, rfl, (by show (0 : Int) < 9; decide), ?_⟩
      have SS : ∀ (H5 : Hp) (x9 x10 : Option V), Tups H4 H5 → SlD H5 [none, none, none, none, none, some (.int (o + 1 + k5 / 4)), none, some (.str (kname kd)), some (.tuple (fldD kd))]
          [some (.ref tp), some (.int most), some (.ref lr), some (.ref sp), some (.ref sn), some (.int (o + 1 + k5 / 4)), some (.int (0 + (i : Int))), some (.str (kname kd)), some (.ref fa), x9, x10] := fun H5 x9 x10 tu => ⟨⟨_, rfl, Tp.int⟩, ⟨_, rfl, Tp.str⟩, ⟨_, rfl, Tp.tup (tu _ _ hfa) (hfs.mono tu)⟩, trivial⟩
      refine ⟨fun σ' H5 => ∃ cc : Int, H5 = H4 ∧ σ' = [some (.ref tp), some (.int most), some (.ref lr), some (.ref sp), some (.ref sn), some (.int (o + 1 + k5 / 4)), some (.int (0 + (i : Int))), some (.str (kname kd)), some (.ref fa), some (.int cc), x10], ?_, ?_⟩
      · refine ⟨_, _, _, SS H4 _ _ (fun _ _ e => e), rfl, rfl, ?_⟩
        cases hq : sq false (kname kd) "mark" with
        | true =>
          refine iteT' rfl ?_
          exact ⟨0, rfl, rfl⟩
        | false =>
          refine iteF' rfl ?_
          refine ⟨_, rfl, rfl, _, rfl, ?_⟩
          refine ite2 (fun _ => ?_) (fun _ => ?_)
          · exact ⟨9, rfl, rfl⟩
          · exact ⟨_, rfl, rfl⟩
      rintro σ' H5 ⟨cc, rfl, rfl⟩
      -- records.append(..)
      obtain ⟨vs, hv1, hv2⟩ := id R4.hl
      have hvl := hv2.length
      rw [List.length_map] at hvl
      have hfl := hfs.length
      have hfl3 := fldD_len kd
      have hfne : fs ≠ [] := fun e => by
        rw [e] at hfl
        exact fldD_ne kd (List.length_eq_zero_iff.mp hfl)
      refine ⟨_, rfl, .inl ⟨rfl, _, .inl (.inl hv1)⟩, _, rfl, _, rfl, _, rfl, tp, c, cells, 4, rfl, R4.ta, by decide, by decide, fun k4 H6 c0 c1 B6 T6 => ?_⟩
      have R6 := R4.tape B6 T6
      refine ⟨_, rfl, _, 9, rfl, rfl, ⟨by decide, by decide⟩, 1, _, rfl, rfl, _, rfl, (by show 5 ≤ sizeLine; decide), fun q hq => ?_⟩
      have sq1 := same_upd (o := .tup [.int (o + 1 + k5 / 4), .str (kname kd), .int k4, .int (1 + (0 + (i : Int)) / 9), .int cc]) hq
      refine ⟨_, rfl, fa, fs, rfl, SqT.of (sq1 _ _ (B6.t _ _ hfa)), q, fa, _, fs, rfl, rfl, SqT.of upd_same, SqT.of (sq1 _ _ (B6.t _ _ hfa)), ?_, (fun z => by cases z), (fun _ z => absurd z hfne), fun _ _ p hp => ?_⟩
      · show 5 + fs.length ≤ sizeLine
        rw [sizeLine_eq]
        omega
      have sp1 := same_upd (o := .tup ([.int (o + 1 + k5 / 4), .str (kname kd), .int k4, .int (1 + (0 + (i : Int)) / 9), .int cc] ++ fs)) hp
      have R7 := R6.same (sq1.trans sp1)
      have tq : Tups H5 (upd (upd H6 q (.tup [.int (o + 1 + k5 / 4), .str (kname kd), .int k4, .int (1 + (0 + (i : Int)) / 9), .int cc])) p (.tup ([.int (o + 1 + k5 / 4), .str (kname kd), .int k4, .int (1 + (0 + (i : Int)) / 9), .int cc] ++ fs))) := B6.t.trans (sq1.trans sp1).t
      have hrec : Tp (upd (upd H6 q (.tup [.int (o + 1 + k5 / 4), .str (kname kd), .int k4, .int (1 + (0 + (i : Int)) / 9), .int cc])) p (.tup ([.int (o + 1 + k5 / 4), .str (kname kd), .int k4, .int (1 + (0 + (i : Int)) / 9), .int cc] ++ fs))) (recD ⟨o + 1 + k5 / 4, kd, k4, 1 + (0 + (i : Int)) / 9, cc⟩) (.ref p) := by
        refine Tp.tup upd_same ?_
        exact TpAll.append (ds := [.int (o + 1 + k5 / 4), .str (kname kd), .int k4, .int (1 + (0 + (i : Int)) / 9), .int cc]) (TpAll.cons Tp.int (TpAll.cons Tp.str (TpAll.cons Tp.int (TpAll.cons Tp.int (TpAll.one Tp.int))))) (hfs.mono tq)
      have hv7 : (upd (upd H6 q (.tup [.int (o + 1 + k5 / 4), .str (kname kd), .int k4, .int (1 + (0 + (i : Int)) / 9), .int cc])) p (.tup ([.int (o + 1 + k5 / 4), .str (kname kd), .int k4, .int (1 + (0 + (i : Int)) / 9), .int cc] ++ fs))) lr = some (.lst vs) := (sq1.trans sp1) _ _ (B6.keep _ _ hv1 (by simp [ltr]))
      have hv8 := hv2.mono tq
      generalize upd (upd H6 q (.tup [.int (o + 1 + k5 / 4), .str (kname kd), .int k4, .int (1 + (0 + (i : Int)) / 9), .int cc])) p (.tup ([.int (o + 1 + k5 / 4), .str (kname kd), .int k4, .int (1 + (0 + (i : Int)) / 9), .int cc] ++ fs)) = H7 at R7 tq hrec hv7 hv8
      generalize hr0 : (⟨o + 1 + k5 / 4, kd, k4, 1 + (0 + (i : Int)) / 9, cc⟩ : Rec) = r0 at hrec
      have hr0o : r0.ord = o + 1 + k5 / 4 := by rw [← hr0]
      refine ⟨lr, vs, .ref p, rfl, rfl, hv7, by rw [sizeLine_eq]; omega, ?_⟩
      have bl : Bar [lr] H7 (upd H7 lr (.lst (vs ++ [.ref p]))) := Bar.lst hv7
      have R8 := (R7.putL bl (L' := L ++ [r0]) ⟨_, upd_same, by rw [List.map_append]; exact (hv8.append (TpAll.one hrec)).mono bl.t⟩).mono (Nat.le_succ i)
      have tu8 := tq.trans bl.t
      generalize upd H7 lr (.lst (vs ++ [.ref p])) = H8 at R8 tu8
      have hA8 : Asc (L ++ [r0]) := by
        refine List.pairwise_append.mpr ⟨hA, List.pairwise_singleton _ _, fun a ha b hb => ?_⟩
        have := ho a ha
        rw [List.mem_singleton.mp hb, hr0o]
        omega
      have ho8 : ∀ r ∈ L ++ [r0], r.ord ≤ o + 1 + k5 / 4 := fun r hr => by
        rcases List.mem_append.mp hr with h | h
        · have := ho r h
          omega
        · rw [List.mem_singleton.mp h, hr0o]
          exact Int.le_refl _
      have hL8 : (L ++ [r0]).length = i + 1 := by rw [List.length_append, hL]; rfl
      -- make
      refine ⟨fun σ' H' => ∃ ns' : List Int, σ' = [some (.ref tp), some (.int most), some (.ref lr), some (.ref sp), some (.ref sn), some (.int (o + 1 + k5 / 4)), some (.int (0 + (i : Int))), some (.str (kname kd)), some (.ref fa), some (.int cc), x10] ∧
          RecS H H' tp c lr sp sn cells (L ++ [r0]) ns' sns (i + 1) ∧ Tups H5 H' ∧ (∀ n, kd = .remove n → n ∈ ns'), ?_, ?_⟩
      · refine ⟨_, _, _, SS H8 _ _ tu8, rfl, rfl, ?_⟩
        by_cases hk : ∃ n z, kd = .make n z
        · obtain ⟨n, z, rfl⟩ := hk
          refine iteT' (by dsimp only [kname]; decide +kernel) ?_
          refine ⟨_, rfl, .inl ⟨rfl, _, .inl (.inl R8.hs)⟩, _, _, SS H8 _ _ tu8, rfl, fun v tv => ⟨sp, _, v, rfl, rfl, R8.hs, ?_, ?_⟩⟩
          · have := R8.n1
            rw [List.length_map, sizeLine_eq]
            omega
          · rw [tv.int_of, show ns.map V.int ++ [V.int n] = (ns ++ [n]).map V.int by simp]
            have bs : Bar [sp] H8 (upd H8 sp (.lst ((ns ++ [n]).map V.int))) := Bar.lst R8.hs
            have hn := R.n1
            exact ⟨ns ++ [n], rfl, R8.putS (by rw [List.length_append]; exact Nat.succ_le_succ hn), tu8.trans bs.t, fun n' e => by cases e⟩
        · refine iteF' (by cases kd <;> first | exact absurd ⟨_, _, rfl⟩ hk | (dsimp only [kname]; decide +kernel)) ?_
          refine ⟨ns, rfl, R8, tu8, fun n e => ?_⟩
          rw [e] at ok
          exact ok
      rintro σ' H9 ⟨ns', rfl, R9, tu9, ok9⟩
      -- snap
      refine ⟨fun σ' H' => ∃ sns' : List (Int × Int), σ' = [some (.ref tp), some (.int most), some (.ref lr), some (.ref sp), some (.ref sn), some (.int (o + 1 + k5 / 4)), some (.int (0 + (i : Int))), some (.str (kname kd)), some (.ref fa), some (.int cc), x10] ∧
          RecS H H' tp c lr sp sn cells (L ++ [r0]) ns' sns' (i + 1) ∧ Tups H5 H' ∧ (∀ n o, kd = .drop n o → (n, o) ∈ sns'), ?_, ?_⟩
      · refine ⟨_, _, _, SS H9 _ _ tu9, rfl, rfl, ?_⟩
        by_cases hk : ∃ n, kd = .snap n
        · obtain ⟨n, rfl⟩ := hk
          refine iteT' (by dsimp only [kname]; decide +kernel) ?_
          refine ⟨_, rfl, ?_⟩
          refine app_data R9.hn ?_ (SS H9 _ _ tu9) (x := dTup (dCons (dIx (dVar 8) (Int.toNat 0)) (dCons (dVar 5) dNil))) (d := snapD (n, o + 1 + k5 / 4)) rfl fun Hn bn hn => ?_
          · have := R9.n2
            rw [List.length_map, sizeLine_eq]
            omega
          · have h2 := R.n2
            refine ⟨sns ++ [(n, o + 1 + k5 / 4)], rfl, R9.putN bn (by rw [List.map_append]; exact hn) (by rw [List.length_append]; exact Nat.succ_le_succ h2), tu9.trans bn.t, fun n' o' e => by cases e⟩
        · refine iteF' (by cases kd <;> first | exact absurd ⟨_, rfl⟩ hk | (dsimp only [kname]; decide +kernel)) ?_
          refine ⟨sns, rfl, R9, tu9, fun n o e => ?_⟩
          rw [e] at ok
          exact ok
      rintro σ' H10 ⟨sns', rfl, R10, tu10, ok10⟩
      -- remove
      refine ⟨fun σ' H' => ∃ (ns2 : List Int) (sns2 : List (Int × Int)) (sn2 : Addr), σ' = [some (.ref tp), some (.int most), some (.ref lr), some (.ref sp), some (.ref sn2), some (.int (o + 1 + k5 / 4)), some (.int (0 + (i : Int))), some (.str (kname kd)), some (.ref fa), some (.int cc), x10] ∧
          RecS H H' tp c lr sp sn2 cells (L ++ [r0]) ns2 sns2 (i + 1) ∧ Tups H5 H' ∧ (∀ n o, kd = .drop n o → (n, o) ∈ sns2), ?_, ?_⟩
      · refine ⟨_, _, _, SS H10 _ _ tu10, rfl, rfl, ?_⟩
        by_cases hk : ∃ n, kd = .remove n
        · obtain ⟨n, rfl⟩ := hk
          refine iteT' (by dsimp only [kname]; decide +kernel) ?_
          obtain ⟨j, hj⟩ := place_of (d := .int n) (List.mem_map.mpr ⟨n, ok9 n rfl, rfl⟩) (by simp [PyData.eqv])
          refine ⟨_, rfl, .inl ⟨rfl, _, .inl (.inl R10.hs)⟩, _, _, SS H10 _ _ tu10, rfl, fun v tv => ⟨sp, _, v, ns'.map PyData.int, .int n, j, rfl, rfl, R10.hs, tp_ints.mpr rfl, tv, plain_ints ns', rfl, (by simp only [PyData.depth]; omega), hj, ?_⟩⟩
          rw [map_erase]
          have bs : Bar [sp] H10 (upd H10 sp (.lst ((ns'.eraseIdx j).map V.int))) := Bar.lst R10.hs
          have R11 := R10.putS (ns' := ns'.eraseIdx j) (Nat.le_trans (erase_len _ _) R10.n1)
          have tu11 := tu10.trans bs.t
          generalize upd H10 sp (.lst ((ns'.eraseIdx j).map V.int)) = H11 at R11 tu11
          refine ⟨_, rfl, sn, rfl, R11.hn.sq, fun D hD => ?_⟩
          refine lc_lstD R11.hn hD (fun i' H' => ∃ acc, H' = upd H11 D (.lst acc) ∧ TpAll H11 (((sns'.take i').filter fun z => !decide (z.1 = n)).map snapD) acc ∧ acc.length ≤ i') ⟨[], rfl, TpAll.nil, Nat.le_refl _⟩
            (fun i' H' ⟨acc, e, _⟩ => by rw [e]; exact same_upd hD) ?_ ?_
          · rintro i' dv v' H' hdi t0 t1 ⟨acc, rfl, hacc, hal⟩
            rw [List.getElem?_map] at hdi
            cases hz : sns'[i']? with
            | none => rw [hz] at hdi; cases hdi
            | some z =>
              rw [hz] at hdi
              cases hdi
              have hi' : i' < sns'.length := (List.getElem?_eq_some_iff.mp hz).1
              have tk : sns'.take (i' + 1) = sns'.take i' ++ [z] := by
                rw [List.take_add_one, hz]
                rfl
              have sD := same_upd (o := .lst acc) hD
              have S2 : SlD (upd H11 D (.lst acc)) [none, none, none, none, none, none, none, none, some (.tuple (fldD (.remove n))), none, some (snapD z)]
                  [some (.ref tp), some (.int most), some (.ref lr), some (.ref sp), some (.ref sn), some (.int (o + 1 + k5 / 4)), some (.int (0 + (i : Int))), some (.str (kname (.remove n))), some (.ref fa), some (.int cc), some v'] :=
                ⟨⟨_, rfl, Tp.tup ((tu11.trans sD.t) _ _ hfa) (hfs.mono (tu11.trans sD.t))⟩, ⟨_, rfl, t1⟩, trivial⟩
              refine ⟨rfl, _, z.1, n, S2, rfl, rfl, ?_⟩
              by_cases hzn : z.1 = n
              · refine iteF' (by show (!decide (z.1 = n)) = false; rw [decide_eq_true hzn]; rfl) ?_
                refine ⟨acc, rfl, ?_, by omega⟩
                rw [tk, List.filter_append, List.filter_cons, if_neg (by rw [decide_eq_true hzn]; exact Bool.false_ne_true), List.filter_nil, List.append_nil]
                exact hacc
              · refine iteT' (by show (!decide (z.1 = n)) = true; rw [decide_eq_false hzn]; rfl) ?_
                have := R10.n2
                refine ⟨_, rfl, acc, upd_same, by rw [sizeLine_eq]; omega, acc ++ [v'], by rw [upd_upd], ?_, by rw [List.length_append]; exact Nat.succ_le_succ hal⟩
                rw [tk, List.filter_append, List.filter_cons, if_pos (by rw [decide_eq_false hzn]; rfl), List.filter_nil, List.map_append]
                exact hacc.append (TpAll.one t0)
          · rintro H' ⟨acc, rfl, hacc, _⟩
            rw [List.length_map, List.take_length] at hacc
            have sD := same_upd (o := .lst acc) hD
            refine ⟨ns'.eraseIdx j, sns'.filter fun z => !decide (z.1 = n), D, rfl, R11.newN sD hD ⟨acc, upd_same, hacc.mono sD.t⟩ (Nat.le_trans (List.length_filter_le _ _) R11.n2), tu11.trans sD.t, fun n' o' e => by cases e⟩
        · refine iteF' (by cases kd <;> first | exact absurd ⟨_, rfl⟩ hk | (dsimp only [kname]; decide +kernel)) ?_
          exact ⟨ns', sns', sn, rfl, R10, tu10, ok10⟩
      rintro σ' H11 ⟨ns2, sns2, sn2, rfl, R11, tu11, ok11⟩
      -- drop
      have S11 : SlD H11 [none, none, none, none, none, some (.int (o + 1 + k5 / 4)), none, some (.str (kname kd)), some (.tuple (fldD kd))]
          [some (.ref tp), some (.int most), some (.ref lr), some (.ref sp), some (.ref sn2), some (.int (o + 1 + k5 / 4)), some (.int (0 + (i : Int))), some (.str (kname kd)), some (.ref fa), some (.int cc), x10] := ⟨⟨_, rfl, Tp.int⟩, ⟨_, rfl, Tp.str⟩, ⟨_, rfl, Tp.tup (tu11 _ _ hfa) (hfs.mono tu11)⟩, trivial⟩
      refine ⟨_, _, _, S11, rfl, rfl, ?_⟩
      by_cases hk : ∃ n o2, kd = .drop n o2
      · obtain ⟨n, o2, rfl⟩ := hk
        refine iteT' (by dsimp only [kname]; decide +kernel) ?_
        obtain ⟨j, hj⟩ := place_of (d := snapD (n, o2)) (List.mem_map.mpr ⟨(n, o2), ok11 n o2 rfl, rfl⟩) (by simp [snapD, PyData.eqv, PyData.eqvAll])
        obtain ⟨us, hu1, hu2⟩ := id R11.hn
        refine ⟨_, rfl, .inl ⟨rfl, _, .inl (.inl hu1)⟩, _, _, S11, rfl, fun v tv => ⟨sn2, us, v, sns2.map snapD, snapD (n, o2), j, rfl, rfl, hu1, hu2, tv, plain_snaps sns2, by simp [snapD, PyData.plain, PyData.plainAll], (by simp only [snapD, PyData.depth, PyData.depthAll]; omega), hj, ?_⟩⟩
        have bs : Bar [sn2] H11 (upd H11 sn2 (.lst (us.eraseIdx j))) := Bar.lst hu1
        have R12 := R11.putN bs (sns' := sns2.eraseIdx j) ⟨_, upd_same, by rw [← map_erase]; exact (hu2.erase j).mono bs.t⟩ (Nat.le_trans (erase_len _ _) R11.n2)
        exact ⟨_, _, _, sn2, _, _, _, _, _, _, R12, hA8, hL8, ho8, rfl⟩
      · refine iteF' (by cases kd <;> first | exact absurd ⟨_, _, rfl⟩ hk | (dsimp only [kname]; decide +kernel)) ?_
        exact ⟨_, _, _, sn2, _, _, _, _, _, _, R11, hA8, hL8, ho8, rfl⟩
    · rintro σ' H' ⟨L, ns, sns, sn, o, x6, x7, x8, x9, x10, R, hA, hL, ho, rfl⟩
      exact ⟨_, rfl, k lr L H' R.bar R.ta R.f1 R.hl hA (by omega)⟩
end
end K13
/-! ## K13Q -/
/-! The law's own effects of a record. -/
namespace K13
open PySem L2
abbrev sLEff : Stmt := top 20
abbrev NLE : List Str := ["_law_record", "_law_order", "_law_kind", "_law_host", "_law_fields_here", "_law_found"]
section
variable {P : Program} {w : World} {K : PySem.W.Frag} {mg : Str → Option Value} {base : Heap}
theorem scLEff : FnScope NLE ["_law_record"] (defScope sLEff) := ⟨rfl, rfl, rfl, by decide +kernel, rfl, by decide +kernel, by decide +kernel⟩
theorem ok_leff {f : Addr} {fd : FuncData} (F : Fun K "_law_effects" "_law_effects" sLEff f fd) : FnOk P w K mg base CX0 1 f fd ["_law_record"] (spEffs (fun _ => true) effL) := by
  refine F.ok scLEff (fun vs H Q E h => ?_) (fun cdv A outer s H vs Q E hr h => ?_)
  · obtain ⟨r, v, rfl, _⟩ := h
    rfl
  · obtain ⟨r, v, rfl, t, hc, k⟩ := h
    have nd := scLEff.nd
    refine ⟨_, pss_cons (ps_unp (pd_cut (pd_var 0) po_0 (po_c pe_int)) (pg_tup rfl (pgs_cons (pg_name (i := 1) nd rfl (.inl rfl)) (pgs_cons (pg_name (i := 2) nd rfl (.inl rfl)) (pgs_cons (pg_name (i := 3) nd rfl (.inl rfl)) pgs_nil)))))
      (pss_cons (ps_set (i := 4) nd rfl (.inl rfl) (pd_cut (pd_var 0) (po_c pe_int) po_0))
      (pss_cons (ps_if (pt_seq (pr_var 2) pr_str) (pss_one (ps_ret (pd_lst (pds_cons (pd_tup (pds_cons (pd_tup (pds_cons pd_str (pds_cons (pd_var 3) pds_nil))) (pds_cons (pd_ix (pr_var 4)) pds_nil))) pds_nil)))) pss_nil)
      (pss_cons (ps_if (pt_seq (pr_var 2) pr_str) (pss_one (ps_ret (pd_lst (pds_cons (pd_tup (pds_cons (pd_tup (pds_cons pd_str (pds_cons (pd_ix (pr_var 4)) pds_nil))) (pds_cons (pd_ix (pr_var 4)) pds_nil))) pds_nil)))) pss_nil)
      (pss_cons (ps_if (pt_seq (pr_var 2) pr_str) (pss_one (ps_ret (pd_lst (pds_cons (pd_tup (pds_cons (pd_tup (pds_cons pd_str (pds_cons (pd_ix (pr_var 4)) pds_nil))) (pds_cons (pd_var 1) pds_nil))) pds_nil)))) pss_nil)
      (pss_cons (ps_if (pt_seq (pr_var 2) pr_str) (pss_one (ps_ret (pd_lst (pds_cons (pd_tup (pds_cons (pd_tup (pds_cons pd_str (pds_cons (pd_ix (pr_var 4)) (pds_cons (pd_ix (pr_var 4)) pds_nil)))) (pds_cons (pd_ix (pr_var 4)) pds_nil))) pds_nil)))) pss_nil)
      (pss_cons (ps_if (pt_seq (pr_var 2) pr_str) (pss_one (ps_ret (pd_lst (pds_cons (pd_tup (pds_cons (pd_tup (pds_cons pd_str (pds_cons (pd_ix (pr_var 4)) (pds_cons (pd_ix (pr_var 4)) pds_nil)))) (pds_cons pd_non pds_nil))) pds_nil)))) pss_nil)
      (pss_cons (ps_if (pt_seq (pr_var 2) pr_str) (pss_one (ps_ret (pd_lst (pds_cons (pd_tup (pds_cons (pd_tup (pds_cons pd_str (pds_cons (pd_ix (pr_var 4)) (pds_cons (pd_var 1) pds_nil)))) (pds_cons (pd_var 1) pds_nil))) pds_nil)))) pss_nil)
      (pss_cons (ps_if (pt_seq (pr_var 2) pr_str) (pss_one (ps_ret (pd_lst (pds_cons (pd_tup (pds_cons (pd_tup (pds_cons pd_str (pds_cons (pd_ix (pr_var 4)) (pds_cons (pd_ix (pr_var 4)) pds_nil)))) (pds_cons pd_non pds_nil))) pds_nil)))) pss_nil)
      (pss_cons (ps_if (pt_seq (pr_var 2) pr_str) (pss_one (ps_ret (pd_lst (pds_cons (pd_tup (pds_cons (pd_tup (pds_cons pd_str (pds_cons (pd_ix (pr_var 4)) (pds_cons (pd_var 3) pds_nil)))) (pds_cons (pd_var 1) pds_nil))) pds_nil)))) pss_nil)
      (pss_cons (ps_if (pt_seq (pr_var 2) pr_str) (pss_one (ps_ret (pd_lst (pds_cons (pd_tup (pds_cons (pd_tup (pds_cons pd_str (pds_cons (pd_ix (pr_var 4)) pds_nil))) (pds_cons (pd_tup (pds_cons (pd_var 3) (pds_cons (pd_ix (pr_var 4)) pds_nil))) pds_nil))) pds_nil)))) pss_nil)
      (pss_cons (ps_if (pt_seq (pr_var 2) pr_str) (pss_one (ps_ret (pd_lst (pds_cons (pd_tup (pds_cons (pd_tup (pds_cons pd_str (pds_cons (pd_ix (pr_var 4)) pds_nil))) (pds_cons pd_non pds_nil))) pds_nil)))) pss_nil)
      (pss_cons (ps_if (pt_seq (pr_var 2) pr_str)
        (pss_cons (ps_set (i := 5) nd rfl (.inl rfl) (pd_lst (pds_cons (pd_tup (pds_cons (pd_tup (pds_cons pd_str (pds_cons (pd_ix (pr_var 4)) (pds_cons (pd_ix (pr_var 4)) pds_nil)))) (pds_cons pd_non pds_nil))) pds_nil)))
        (pss_cons (ps_if (pt_notN (pr_ix (pr_var 4))) (pss_one (ps_appD (pv 5) (pd_tup (pds_cons (pd_tup (pds_cons pd_str (pds_cons (pd_ix (pr_var 4)) pds_nil))) (pds_cons (pd_tup (pds_cons (pd_var 3) (pds_cons (pd_ix (pr_var 4)) pds_nil))) pds_nil))) (pe_bm PySem.F.plainAttrs_list PySem.F.slot_list_append PySem.F.type_list_append mt_append (pv 5) (pds_cons (pd_tup (pds_cons (pd_tup (pds_cons pd_str (pds_cons (pd_ix (pr_var 4)) pds_nil))) (pds_cons (pd_tup (pds_cons (pd_var 3) (pds_cons (pd_ix (pr_var 4)) pds_nil))) pds_nil))) pds_nil)))) pss_nil)
        (pss_one (ps_ret (pv 5))))) pss_nil)
      (pss_cons (ps_set (i := 5) nd rfl (.inl rfl) (pd_lst (pds_cons (pd_tup (pds_cons (pd_tup (pds_cons pd_str (pds_cons (pd_ix (pr_var 4)) (pds_cons (pd_var 3) pds_nil)))) (pds_cons pd_non pds_nil))) pds_nil)))
      (pss_cons (ps_if (pt_bool (pr_ix (pr_var 4))) (pss_one (ps_appD (pv 5) (pd_tup (pds_cons (pd_tup (pds_cons pd_str (pds_cons (pd_ix (pr_var 4)) pds_nil))) (pds_cons pd_non pds_nil))) (pe_bm PySem.F.plainAttrs_list PySem.F.slot_list_append PySem.F.type_list_append mt_append (pv 5) (pds_cons (pd_tup (pds_cons (pd_tup (pds_cons pd_str (pds_cons (pd_ix (pr_var 4)) pds_nil))) (pds_cons pd_non pds_nil))) pds_nil)))) pss_nil)
      (pss_one (ps_ret (pv 5))))))))))))))))), ?_⟩
    obtain ⟨o, kd, h, se, c⟩ := r
    have S : SlD H [some (recD ⟨o, kd, h, se, c⟩)] [some v, none, none, none, none, none] := ⟨⟨v, rfl, t⟩, trivial⟩
    refine ⟨_, [.int o, .str (kname kd), .int h], S, rfl, rfl, fun vs1 H1 s1 t1 => ?_⟩
    simp only [TpAll, Tp] at t1
    obtain ⟨_, _, rfl, rfl, _, _, rfl, rfl, _, _, rfl, rfl, rfl⟩ := t1
    refine ⟨_, _, rfl, _, _, rfl, _, _, rfl, rfl, ?_⟩
    have S1 : SlD H1 [some (recD ⟨o, kd, h, se, c⟩)] [some v, some (.int o), some (.str (kname kd)), some (.int h), none, none] := ⟨⟨v, rfl, t.mono s1.t⟩, trivial⟩
    refine ⟨_, .tuple (fldD kd), S1, by cases kd <;> rfl, fun v2 H2 s2 t2 => ?_⟩
    have fin : ∀ (z : Option V) (H3 : Hp), Tups H2 H3 → SlD H3 [some (recD ⟨o, kd, h, se, c⟩), some (.int o), some (.str (kname kd)), some (.int h), some (.tuple (fldD kd))] [some v, some (.int o), some (.str (kname kd)), some (.int h), some v2, z] := fun z H3 s3 =>
      ⟨⟨v, rfl, t.mono ((s1.trans s2).t.trans s3)⟩, ⟨_, rfl, Tp.int⟩, ⟨_, rfl, Tp.str⟩, ⟨_, rfl, Tp.int⟩, ⟨v2, rfl, t2.mono s3⟩, trivial⟩
    have r1 := (L2.Same.refl H2).t
    have k' : ∀ l H', L2.Same H2 H' → H2 l = none → LstD H' l ((effL ⟨o, kd, h, se, c⟩).map effD) → Q (.ref l) H' := fun l H' s3 hl tl => k l H' ((s1.trans s2).trans s3) ((s1.trans s2).free hl) tl
    refine ⟨_, _, _, fin _ _ r1, rfl, rfl, ?_⟩
    cases kd
    case mark tt =>
      walk_at "kT"
      refine ⟨_, _, fin _ _ r1, rfl, ble1 rfl, fun l H3 s3 hl tl => k' l H3 s3 hl ?_⟩
      cases tt <;> exact tl
    all_goals
      walk_at "kF"
      refine ⟨_, _, _, fin _ _ r1, rfl, rfl, ?_⟩
    case make n z =>
      walk_at "kT"
      exact ⟨_, _, fin _ _ r1, rfl, ble1 rfl, k'⟩
    all_goals
      walk_at "kF"
      refine ⟨_, _, _, fin _ _ r1, rfl, rfl, ?_⟩
    case remove n =>
      walk_at "kT"
      exact ⟨_, _, fin _ _ r1, rfl, ble1 rfl, k'⟩
    all_goals
      walk_at "kF"
      refine ⟨_, _, _, fin _ _ r1, rfl, rfl, ?_⟩
    case write n p z =>
      walk_at "kT"
      exact ⟨_, _, fin _ _ r1, rfl, ble1 rfl, k'⟩
    all_goals
      walk_at "kF"
      refine ⟨_, _, _, fin _ _ r1, rfl, rfl, ?_⟩
    case trim n p =>
      walk_at "kT"
      exact ⟨_, _, fin _ _ r1, rfl, ble1 rfl, k'⟩
    all_goals
      walk_at "kF"
      refine ⟨_, _, _, fin _ _ r1, rfl, rfl, ?_⟩
    case snap n =>
      walk_at "kT"
      exact ⟨_, _, fin _ _ r1, rfl, ble1 rfl, k'⟩
    all_goals
      walk_at "kF"
      refine ⟨_, _, _, fin _ _ r1, rfl, rfl, ?_⟩
    case drop n p =>
      walk_at "kT"
      exact ⟨_, _, fin _ _ r1, rfl, ble1 rfl, k'⟩
    all_goals
      walk_at "kF"
      refine ⟨_, _, _, fin _ _ r1, rfl, rfl, ?_⟩
    case register n =>
      walk_at "kT"
      exact ⟨_, _, fin _ _ r1, rfl, ble1 rfl, k'⟩
    all_goals
      walk_at "kF"
      refine ⟨_, _, _, fin _ _ r1, rfl, rfl, ?_⟩
    case reserve n w =>
      walk_at "kT"
      exact ⟨_, _, fin _ _ r1, rfl, ble1 rfl, k'⟩
    all_goals
      walk_at "kF"
      refine ⟨_, _, _, fin _ _ r1, rfl, rfl, ?_⟩
    case release n =>
      walk_at "kT"
      exact ⟨_, _, fin _ _ r1, rfl, ble1 rfl, k'⟩
    all_goals
      walk_at "kF"
      refine ⟨_, _, _, fin _ _ r1, rfl, rfl, ?_⟩
    case preempt n vi w =>
      walk_at "kT"
      refine ⟨_, _, fin _ _ r1, rfl, ble1 rfl, fun l H3 s3 hl t3 => ?_⟩
      refine ⟨_, _, fin _ _ s3.t, rfl, ?_⟩
      cases w with
      | none =>
        refine iteF' rfl ?_
        exact ⟨_, rfl, k' l H3 s3 hl t3⟩
      | some w =>
        refine iteT' rfl ?_
        refine ⟨l, _, _, _, rfl, t3, small1000 (ble1 rfl), fin _ _ s3.t, rfl, fun H4 b4 t4 => ?_⟩
        exact ⟨_, rfl, k' l H4 (b4.same s3 fun x hx => by rw [List.mem_singleton.mp hx]; exact hl) hl t4⟩
    case leave n held =>
      walk_at "kF"
      refine ⟨_, _, fin _ _ r1, rfl, ble1 rfl, fun l H3 s3 hl t3 => ?_⟩
      refine ⟨_, held, fin _ _ s3.t, rfl, ?_⟩
      cases held with
      | false =>
        refine iteF ?_
        exact ⟨_, rfl, k' l H3 s3 hl t3⟩
      | true =>
        refine iteT ?_
        refine ⟨l, _, _, _, rfl, t3, small1000 (ble1 rfl), fin _ _ s3.t, rfl, fun H4 b4 t4 => ?_⟩
        exact ⟨_, rfl, k' l H4 (b4.same s3 fun x hx => by rw [List.mem_singleton.mp hx]; exact hl) hl t4⟩
end
end K13
/-! ## K13Q2 -/
/-! sorted(records): tuples whose first items are ints, no two of them alike. -/
namespace SrtO
open PySem PySem.Spec PyProof.Rows
open PyProof
section
variable {prog : Program} {w : World} {A : Around} {s : Shared} {E : Value → Shared → Prop}
/-- a tuple whose first item is the int x -/
def IsTop (h : Heap) (v : Value) (x : Int) : Prop := ∃ a o xs n t, v = .ref a ∧ h.get? a = some o ∧ o.cls = .type "tuple" ∧ o.data = .seq xs n ∧ xs.toList.head? = some (.int x t)
theorem IsTop.keeps {h h' : Heap} {v : Value} {x : Int} (p : IsTop h v x) (k : ∀ b o, h.get? b = some o → o.cls = .type "tuple" → h'.get? b = some o) : IsTop h' v x := by
  obtain ⟨a, o, xs, n, t, e, ho, hc, hd, hx⟩ := p
  exact ⟨a, o, xs, n, t, e, k a o ho hc, hc, hd, hx⟩
theorem swo_top (k : Value → Int) : Swo fun v u => decide (k v < k u) := by
  refine ⟨fun x y h => ?_, fun x y z h1 h2 => ?_⟩
  · have a := of_decide_eq_true h
    exact decide_eq_false (by omega)
  · have a := of_decide_eq_false h1
    have b := of_decide_eq_false h2
    exact decide_eq_false (by omega)
theorem lex_self {Q : Bool → Shared → Prop} {b fin : Bool} : ∀ (l : List Value) (i : Nat), Q fin s → PySem.W.KatLex prog w A b fin Q (l.zip l) i s
  | [], _, h => PySem.W.kat_nil h
  | x :: l, i, h => by
    refine PySem.W.kat_cons (SeqAt.EqAt.same x prog w _ _ ?_)
    refine PySem.W.kat_go (fun _ => ?_) (fun z => by cases z)
    exact PySem.W.kat_yes (lex_self l (i + 1) h)
theorem top_cmp {vs : List Value} {k : Value → Int} (hp : ∀ v ∈ vs, IsTop s.heap v (k v)) (inj : ∀ v ∈ vs, ∀ u ∈ vs, k v = k u → v = u) : Cmp prog w A s (tuples' true) (fun p => p.1 ∈ vs) (lt2 fun v u => decide (k v < k u)) := by
  intro p q hm hm'
  have h1 := hp _ hm
  have h2 := hp _ hm'
  have h3 := inj _ hm _ hm'
  show wpAny (model prog w) A (keyLt' (tuples' true) p.1 q.1) (fun r s' => s' = s ∧ r = decide (k p.1 < k q.1)) (fun _ _ => False) s
  by_cases e : k p.1 = k q.1
  · rw [h3 e]
    obtain ⟨a, o, xs, n, t, e1, ho, hc, hd, hx⟩ := h2
    have e2 : decide (k q.1 < k q.1) = false := decide_eq_false (Int.lt_irrefl _)
    rw [e2]
    rw [e1]
    refine PySem.W.kat_lt ho hd ho hd (lex_self _ _ ⟨rfl, ?_⟩)
    exact decide_eq_false (Nat.lt_irrefl _)
  · generalize k p.1 = x at h1 e ⊢
    generalize k q.1 = y at h2 e ⊢
    obtain ⟨a, o, xs, n, t, e1, ho, hc, hd, hx⟩ := h1
    obtain ⟨a', o', xs', n', t', e1', ho', hc', hd', hx'⟩ := h2
    rw [e1, e1']
    refine PySem.W.kat_lt ho hd ho' hd' ?_
    cases q1 : xs.toList with
    | nil => rw [q1] at hx; cases hx
    | cons u r =>
      rw [q1] at hx
      cases hx
      cases q2 : xs'.toList with
      | nil => rw [q2] at hx'; cases hx'
      | cons u' r' =>
        rw [q2] at hx'
        cases hx'
        refine PySem.W.kat_cons (SeqAt.EqAt.int_int x t y t' prog w _ _ ?_)
        refine PySem.W.kat_go (fun z => ?_) (fun z => ?_)
        · exact absurd (by simpa using z) e
        · exact PySem.W.kat_no (oneLt_int ⟨rfl, rfl⟩)
theorem tops_of {h : Heap} {k : Value → Int} : ∀ {vs : List Value}, (∀ v ∈ vs, IsTop h v (k v)) → ∃ fs : List Value, PySem.W.KatTups h vs fs ∧ fs.length = vs.length ∧ ∀ f ∈ fs, ∃ x t, f = Value.int x t
  | [], _ => ⟨[], PySem.W.KatTups.nil, rfl, fun _ hm => by cases hm⟩
  | v :: vs, hp => by
    obtain ⟨fs, h1, h2, h3⟩ := tops_of (vs := vs) fun u hm => hp u (List.mem_cons_of_mem _ hm)
    obtain ⟨a, o, xs, n, t, e, ho, hc, hd, hx⟩ := hp v List.mem_cons_self
    subst e
    have hx0 : xs[0]? = some (.int (k (.ref a)) t) := by
      rw [← Array.getElem?_toList, ← List.head?_eq_getElem?]
      exact hx
    refine ⟨_ :: fs, PySem.W.KatTups.cons ho hc hd hx0 h1, by rw [List.length_cons, List.length_cons, h2], fun f hm => ?_⟩
    rcases List.mem_cons.mp hm with e | hm
    · exact ⟨_, t, e⟩
    · exact h3 f hm
theorem tops_sortable {a : Addr} {vs : List Value} {k : Value → Int} (h0 : 0 < vs.length) (hp : ∀ v ∈ vs, IsTop s.heap v (k v)) (inj : ∀ v ∈ vs, ∀ u ∈ vs, k v = k u → v = u) (ha : ∀ o, s.heap.get? a = some o → o.cls ≠ .type "tuple") :
    SortableO prog w A s a vs fun v u => decide (k v < k u) := by
  intro h' keep
  have hp' : ∀ v ∈ vs, IsTop h' v (k v) := fun v hm => (hp v hm).keeps fun b o e c => keep b o (fun z => by subst z; exact ha o e c) e
  obtain ⟨fs, h1, h2, h3⟩ := tops_of hp'
  refine ⟨tuples' true, fun Q E hq => ?_, top_cmp (s := { s with heap := h' }) hp' inj⟩
  refine PySem.W.kat_kind (T := .type "int") h1 (by omega) (fun f hm => ?_) (by rfl) ?_
  · obtain ⟨x, t, rfl⟩ := h3 f hm
    exact PySem.W.Looks.now
  · have e : (Value.type "int" != Value.type "tuple") = true := by first | decide +kernel | rfl | decide
    rw [e]
    exact hq
/-- sorted(l), l's tuples ascending by their first ints: the same tuples in a new list -/
theorem sorted_tops {l : Addr} {vs : List Value} {k : Value → Int} {Q : Value → Shared → Prop} (hl : s.heap.IsList l vs.toArray) (hz : vs.length ≤ sizeLine) (hp : ∀ v ∈ vs, IsTop s.heap v (k v)) (inj : ∀ v ∈ vs, ∀ u ∈ vs, k v = k u → v = u)
    (hs : Srtd (fun v u => decide (k v < k u)) vs)
    (h : ∀ (h' : Heap) (d : Addr), (∀ b o, s.heap.get? b = some o → h'.get? b = some o) → s.heap.objs.size ≤ d → (∃ n, h'.get? d = some (seqObj "list" vs.toArray n)) → Q (.ref d) { s with heap := h' }) :
    wpAny (model prog w) A (call (.builtin "sorted") [.ref l]) Q E s := by
  refine sorted_ord (swo_top k) hl hz (fun h2 h₁ a ha kk => ?_) fun out ho hb => ?_
  · refine tops_sortable (s := { s with heap := h₁ }) (by omega) (fun v hm => (hp v hm).keeps fun b o e _ => (kk b o e).2) inj fun o e => ?_
    have e' : some o = some (seqObj "list" vs.toArray 0) := e.symm.trans ha
    cases e'
    intro c
    exact absurd (Value.type.inj c) (by decide)
  · have eo : out = vs := stb_uniq (swo_top k) ho hs hb
    subst eo
    exact h _ _ (fun b o e => sortedAll_old e) (Nat.le_succ _) (sortedAll_at s.heap out out.toArray)
end
end SrtO
namespace K13
open PySem L2
/-- sorted(records) -/
def rSortRec : List V → Hp → VK → Prop := fun us H Q => ∃ (a : Addr) (L : List Rec), us = [V.ref a] ∧ LstD H a (L.map recD) ∧ Asc L ∧ ∀ p H', L2.Same H H' → H p = none → LstD H' p (L.map recD) → Q (.ref p) H'
def ordOf (H : Hp) (v : Value) : Int := match v with
  | .ref a => match H a with
    | some (.tup (.int o :: _)) => o
    | _ => 0
  | _ => 0
theorem ordOf_rec {H : Hp} {r : Rec} {v : V} {z : Value} (t : Tp H (recD r) v) (rv : RelV v z) : ∃ a b, v = .ref a ∧ z = .ref a ∧ H a = some (.tup (.int r.ord :: b)) ∧ ordOf H z = r.ord := by
  obtain ⟨a, xs, rfl, h1, h2⟩ := t.out
  obtain rfl : z = Value.ref a := rv
  simp only [TpAll, Tp] at h2
  obtain ⟨_, r2, rfl, rfl, _⟩ := h2
  refine ⟨a, r2, rfl, rfl, h1, ?_⟩
  show (match H a with | some (.tup (.int o :: _)) => o | _ => 0) = _
  rw [h1]
theorem ords_of {H : Hp} : ∀ {L : List Rec} {vs : List V} {zs : List Value}, TpAll H (L.map recD) vs → Vals vs zs → zs.map (ordOf H) = L.map (·.ord) ∧ ∀ z ∈ zs, ∃ a b, z = Value.ref a ∧ H a = some (.tup (.int (ordOf H z) :: b))
  | [], _, _, t, r => by
    simp only [List.map_nil, TpAll] at t
    subst t
    cases r
    exact ⟨rfl, fun z h => by cases h⟩
  | x :: L, _, _, t, r => by
    simp only [List.map_cons, TpAll] at t
    obtain ⟨v, vs, rfl, t1, t2⟩ := t
    cases r with
    | cons rv rs =>
      obtain ⟨h1, h2⟩ := ords_of t2 rs
      obtain ⟨a, b, e1, e2, e3, e4⟩ := ordOf_rec t1 rv
      refine ⟨by rw [List.map_cons, List.map_cons, h1, e4], fun z hz => ?_⟩
      rcases List.mem_cons.mp hz with e | hz
      · rw [e]
        exact ⟨a, b, e2, by rw [e4]; exact e3⟩
      · exact h2 z hz
theorem inj_of_asc {α : Type} {k : α → Int} : ∀ {l : List α}, (l.map k).Pairwise (· < ·) → ∀ v ∈ l, ∀ u ∈ l, k v = k u → v = u
  | [], _, v, hv, _, _, _ => by cases hv
  | x :: l, h, v, hv, u, hu, e => by
    rw [List.map_cons, List.pairwise_cons] at h
    rcases List.mem_cons.mp hv with e1 | hv <;> rcases List.mem_cons.mp hu with e2 | hu
    · rw [e1, e2]
    · have := h.1 _ (List.mem_map.mpr ⟨u, hu, rfl⟩)
      rw [e1] at e
      omega
    · have := h.1 _ (List.mem_map.mpr ⟨v, hv, rfl⟩)
      rw [e2] at e
      omega
    · exact inj_of_asc h.2 v hv u hu e
section
variable {X : Cx}
theorem cr_sortRec : CallR X (.builtin "sorted") rSortRec := by
  intro pins s σ H vs us Q I r h
  obtain ⟨a, L, rfl, hL, hA, q⟩ := h
  obtain ⟨xs, h1, h2⟩ := hL
  obtain ⟨its, rv, hl, hz⟩ := I.list (SqL.of h1)
  obtain ⟨u, rfl, ru⟩ := vals1 r
  obtain rfl : u = Value.ref a := ru
  obtain ⟨e1, e2⟩ := ords_of h2 rv
  have hs : (its.map (ordOf H)).Pairwise (· < ·) := by
    rw [e1]
    exact List.pairwise_map.mpr hA
  refine SrtO.sorted_tops (k := ordOf H) hl.isList (by rw [← rv.length]; exact hz) (fun v hv => ?_) (inj_of_asc hs) ((List.pairwise_map.mp hs).imp fun {x y} z => decide_eq_false (by omega)) fun h' d kp hd hn => ?_
  · obtain ⟨t, b, rfl, ht⟩ := e2 v hv
    obtain ⟨_, its2, r2, o, ho, hc, n, hd⟩ := I.hok _ _ ht
    cases r2 with
    | cons r3 r4 =>
      obtain ⟨t1, rfl⟩ := r3
      exact ⟨t, o, _, n, t1, rfl, ho, hc, hd, rfl⟩
  · obtain ⟨n, hn⟩ := hn
    have hf := I.hok.fresh hd
    exact ⟨.ref d, upd H d (.lst xs), I.laid (t' := s.toks) kp hd ⟨hz, its, n, rv, hn⟩, rfl, q _ _ (same_upd hf) hf ⟨xs, upd_same, h2.mono (same_upd hf).t⟩⟩
end
end K13
/-! ## K13S -/
/-! Equality of the law's data, and the law's own value of a topic. -/
namespace K13
open PySem L2
theorem eqv_key (a b : L2.Key) : PyData.eqv (keyD a) (keyD b) = decide (a = b) := by
  cases a <;> cases b <;> simp [keyD, PyData.eqv, Bool.beq_eq_decide_eq]
theorem eqv_keys : ∀ a b : List L2.Key, PyData.eqvAll (a.map keyD) (b.map keyD) = decide (a = b)
  | [], [] => by simp [PyData.eqvAll]
  | [], y :: b => by simp [PyData.eqvAll]
  | x :: a, [] => by simp [PyData.eqvAll]
  | x :: a, y :: b => by simp [PyData.eqvAll, eqv_key, eqv_keys a b]
theorem eqv_top (a b : Topic) : PyData.eqv (topD a) (topD b) = decide (a = b) := by
  unfold topD
  rw [PyData.eqv, eqv_keys]
  by_cases e : a = b
  · rw [e]; simp
  · rw [decide_eq_false e, decide_eq_false fun h => e (topK_inj h)]
theorem ok_topN (t : Topic) : PyData.strOk (topN t) = true := by cases t <;> (dsimp only [topN]; decide +kernel)
theorem ok_ok : PyData.strOk (Str.ofString "ok") = true := by decide +kernel
theorem ok_way (w : Bool) : PyData.strOk (wayS w) = true := by cases w <;> (dsimp only [wayS]; decide +kernel)
theorem ok_kname (k : Kd) : PyData.strOk (kname k) = true := by cases k <;> (dsimp only [kname]; decide +kernel)
theorem lay_top (t : Topic) : (topD t).canLay0 = true := by
  have h := ok_topN t
  cases t <;> (dsimp only [topN] at h; simp only [topD, topK, keyD, List.map_cons, List.map_nil, PyData.canLay0, PyData.canLayAll0, h, Bool.and_self])
theorem dep_top (t : Topic) : (topD t).depth ≤ 2 := by
  cases t <;> simp [topD, topK, keyD, PyData.depth, PyData.depthAll]
theorem lay_vl (v : Vl) : (vlD v).canLay0 = true := by
  cases v with
  | ans s c a => cases a with
    | none => simp [vlD, PyData.canLay0, PyData.canLayAll0, ok_ok, ok_way]
    | some a => cases a <;> simp [vlD, PyData.canLay0, PyData.canLayAll0, ok_ok, ok_way]
  | _ => simp [vlD, PyData.canLay0, PyData.canLayAll0, ok_ok, ok_way]
theorem dep_vl (v : Vl) : (vlD v).depth ≤ 3 := by
  cases v with
  | ans s c a => cases a with
    | none => simp [vlD, PyData.depth, PyData.depthAll]
    | some a => cases a <;> simp [vlD, PyData.depth, PyData.depthAll]
  | _ => simp [vlD, PyData.depth, PyData.depthAll]
theorem lay_fld (k : Kd) : PyData.canLayAll0 (fldD k) = true := by
  cases k with
  | mark t => simp [fldD, lay_vl, PyData.canLayAll0]
  | preempt n v w => cases w <;> simp [fldD, PyData.canLay0, PyData.canLayAll0, ok_way]
  | _ => simp [fldD, PyData.canLay0, PyData.canLayAll0, ok_way]
theorem dep_fld (k : Kd) : PyData.depthAll (fldD k) ≤ 3 := by
  cases k with
  | mark t =>
    have := dep_vl (toldV t)
    simp [fldD, PyData.depthAll]
    exact this
  | preempt n v w => cases w <;> simp [fldD, PyData.depth, PyData.depthAll]
  | _ => simp [fldD, PyData.depth, PyData.depthAll]
theorem lay_rec (r : Rec) : (recD r).canLay0 = true := by
  simp [recD, PyData.canLay0, PyData.canLayAll0, lay_fld, ok_kname]
theorem dep_rec (r : Rec) : (recD r).depth ≤ 4 := by
  have := dep_fld r.kd
  simp only [recD, PyData.depth, PyData.depthAll]
  omega
theorem shaped_top (t : Topic) : SeqAt.shaped (topD t) = true := shaped_of (lay_top t) (Nat.le_trans (dep_top t) (by decide))
theorem shaped_rec (r : Rec) : SeqAt.shaped (recD r) = true := shaped_of (lay_rec r) (Nat.le_trans (dep_rec r) (by decide))
theorem shaped_tops (ts : List Topic) : SeqAt.shaped (.list (ts.map topD)) = true :=
  shaped_list (fun d hd => by obtain ⟨t, _, rfl⟩ := List.mem_map.mp hd; exact lay_top t) fun d hd => by obtain ⟨t, _, rfl⟩ := List.mem_map.mp hd; exact Nat.le_trans (dep_top t) (by decide)
theorem shaped_recs (L : List Rec) : SeqAt.shaped (.list (L.map recD)) = true :=
  shaped_list (fun d hd => by obtain ⟨t, _, rfl⟩ := List.mem_map.mp hd; exact lay_rec t) fun d hd => by obtain ⟨t, _, rfl⟩ := List.mem_map.mp hd; exact Nat.le_trans (dep_rec t) (by decide)
theorem shaped_vls (L : List Vl) : SeqAt.shaped (.list (L.map vlD)) = true :=
  shaped_list (fun d hd => by obtain ⟨t, _, rfl⟩ := List.mem_map.mp hd; exact lay_vl t) fun d hd => by obtain ⟨t, _, rfl⟩ := List.mem_map.mp hd; exact Nat.le_trans (dep_vl t) (by decide)
theorem eqv_shaped {d : PyData} (h : SeqAt.shaped d = true) : PyData.eqv d d = true := SeqAt.eqv_refl d (SeqAt.canLay_of_shaped h)
theorem eqv_recN {a b : Rec} (h : a.ord ≠ b.ord) : PyData.eqv (recD a) (recD b) = false := by
  simp [recD, PyData.eqv, PyData.eqvAll, h]
theorem any_recs {M : List Rec} {r : Rec} (hi : ∀ a ∈ M, a.ord = r.ord → a = r) : ((M.map recD).any fun z => PyData.eqv z (recD r)) = decide (r ∈ M) := by
  by_cases hm : r ∈ M
  · rw [decide_eq_true hm, List.any_eq_true]
    exact ⟨recD r, List.mem_map.mpr ⟨r, hm, rfl⟩, eqv_shaped (shaped_rec r)⟩
  · rw [decide_eq_false hm, List.any_eq_false]
    intro d hd
    obtain ⟨a, ha, rfl⟩ := List.mem_map.mp hd
    rw [eqv_recN fun e => hm (by rw [← hi a ha e]; exact ha)]
    exact Bool.false_ne_true
theorem any_tops {M : List Topic} {t : Topic} : ((M.map topD).any fun z => PyData.eqv z (topD t)) = decide (t ∈ M) := by
  by_cases hm : t ∈ M
  · rw [decide_eq_true hm, List.any_eq_true]
    exact ⟨topD t, List.mem_map.mpr ⟨t, hm, rfl⟩, eqv_shaped (shaped_top t)⟩
  · rw [decide_eq_false hm, List.any_eq_false]
    intro d hd
    obtain ⟨a, ha, rfl⟩ := List.mem_map.mp hd
    rw [eqv_top, decide_eq_false fun e => hm (by rw [← e]; exact ha)]
    exact Bool.false_ne_true
end K13
/-! ## K13S2 -/
/-! The law's own value of a topic. -/
namespace K13
open PySem L2
abbrev sLVal : Stmt := top 21
def Topic.told? : Topic → Bool
  | .told _ => true | _ => false
theorem contains_gt (t : Topic) : (["gone", "told"] : List Str).contains (topN t) = (t.isGone || t.told?) := by
  cases t <;> (dsimp only [topN, Topic.isGone, Topic.told?]; decide +kernel)
theorem step1_eq (t : Topic) (v : Vl) (e : Topic × Vl) : step1 t v e = if (decide (e.1 = .gone t.snd) && !(t.isGone || t.told?)) = true then .non else if e.1 = t then e.2 else v := by
  unfold step1
  cases t <;> simp [Topic.told?, Topic.isGone]
theorem fold_snoc {α β : Type} (f : β → α → β) (l : List α) (i : Nat) (b : β) (x : α) (h : l[i]? = some x) : (l.take (i + 1)).foldl f b = f ((l.take i).foldl f b) x := by
  rw [List.take_add_one, h, List.foldl_append]
  rfl
def spLVal : Sp := fun vs H Q _ => ∃ (lr : Addr) (L : List Rec) (t : Topic) (tv sv : V) (s : Option (Int × Int)), vs = [.ref lr, tv, sv] ∧ LstD H lr (L.map recD) ∧ Asc L ∧ Tp H (topD t) tv ∧ Tp H (snD s) sv ∧
  ∀ v H', L2.Same H H' → Tp H' (vlD (lawVal L t (s.map (·.2)) .non)) v → Q v H'
abbrev NLV : List Str := ["_law_records_here", "_law_topic", "_law_view", "_law_value_here", "_law_record", "_law_effect"]
theorem law_go {L : List Rec} {t : Topic} {w : Option Int} {i : Nat} {r : Rec} {v : Vl} (h : L[i]? = some r) (hc : cnt w r.ord = true) : lawVal (L.drop i) t w v = lawVal (L.drop (i + 1)) t w (stepL t v r) := by
  have hi := (List.getElem?_eq_some_iff.mp h).1
  rw [List.drop_eq_getElem_cons hi, (List.getElem?_eq_some_iff.mp h).2, lawVal, if_pos hc]
theorem law_stop {L : List Rec} {t : Topic} {w : Option Int} {i : Nat} {r : Rec} {v : Vl} (h : L[i]? = some r) (hc : cnt w r.ord = false) : lawVal (L.drop i) t w v = v := by
  have hi := (List.getElem?_eq_some_iff.mp h).1
  rw [List.drop_eq_getElem_cons hi, (List.getElem?_eq_some_iff.mp h).2, lawVal, if_neg (by rw [hc]; exact Bool.false_ne_true)]
section
variable {P : Program} {w : World} {K : PySem.W.Frag} {mg : Str → Option Value} {base : Heap}
theorem scLVal : FnScope NLV ["_law_records_here", "_law_topic", "_law_view"] (defScope sLVal) := ⟨rfl, rfl, rfl, by decide +kernel, rfl, by decide +kernel, by decide +kernel⟩
theorem ok_lval {f fE : Addr} {fd fdE : FuncData} (F : Fun K "_law_value" "_law_value" sLVal f fd) (hso : mg "sorted" = none)
    (FE : Fun K "_law_effects" "_law_effects" sLEff fE fdE) (gE : mg "_law_effects" = some (.ref fE)) (bE : Binds K fdE ["_law_record"] []) :
    FnOk P w K mg base CX0 2 f fd ["_law_records_here", "_law_topic", "_law_view"] spLVal := by
  have GE : FnOk P w K mg base CX0 1 fE fdE ["_law_record"] (spEffs (fun _ => true) effL) := ok_leff FE
  refine F.ok scLVal (fun vs H Q E h => ?_) (fun cdv A outer s H vs Q E hr h => ?_)
  · obtain ⟨lr, L, t, tv, sv, sn, rfl, _⟩ := h
    rfl
  · obtain ⟨lr, L, t, tv, sv, sn, rfl, hl, hA, tt, ts0, k⟩ := h
    have nd := scLVal.nd
    have hu := hr.units
    refine ⟨_, pss_cons (ps_set (i := 3) nd rfl (.inl rfl) pe_non)
      (pss_cons (ps_for PassesOwn.never rfl (pi_list (pe_callB cr_sortRec (by rfl) hso (by decide +kernel) (pa_cons (pv 0) pa_nil))) (pg_name (i := 4) nd rfl (.inl rfl))
        (pss_join (ps_if (pw_and (pt_notN (pr_var 2)) (pw_and1 (pt_icmp (p := fun i j => decide (j ≤ i)) op_ge (nomark _) (pr_ix (pr_var 4)) (pr_ix (pr_var 2))))).pt (pss_one ps_break) pss_nil)
        (pss_one (ps_for PassesOwn.never rfl (pi_list (pe_call GE hr (by rfl) gE FE.kp bE .nil pass0 (pa_cons (pv 4) pa_nil))) (pg_name (i := 5) nd rfl (.inl rfl))
          (pss_join (ps_if (pt_deq hu (pd_ix (pr_var 5)) (pd_var 1)) (pss_one (ps_set (i := 3) nd rfl (.inl rfl) (pr_ix (pr_var 5)))) pss_nil)
          (pss_one (ps_if (pw_and (pt_deq hu (pd_ix (pr_var 5)) (pd_tup (pds_cons pd_str (pds_cons (pd_ix (pr_var 1)) pds_nil)))) (pw_and1 (pt_snin (pr_ix (pr_var 1)) (pds_cons pd_str (pds_cons pd_str pds_nil)) rfl))).pt (pss_one (ps_set (i := 3) nd rfl (.inl rfl) pe_non)) pss_nil)))))))
      (pss_one (ps_ret (pv 3)))), ?_⟩
    refine ⟨_, rfl, lr, L, rfl, hl, hA, fun lp H1 s1 hlp hl1 => ⟨lp, rfl, ?_⟩⟩
    have W : ∀ (H' : Hp) (v : Vl) (x3 : V) (x4 x5 : Option V), L2.Same H1 H' → Tp H' (vlD v) x3 → v = lawVal L t (sn.map (·.2)) .non → Q x3 H' := fun H' v x3 x4 x5 s2 t3 e => k x3 H' (s1.trans s2) (by rw [← e]; exact t3)
    refine for_lstD hl1 (fun i σ' H' => L2.Same H1 H' ∧ ∃ (v : Vl) (x3 : V) (x4 x5 : Option V), Tp H' (vlD v) x3 ∧ lawVal (L.drop i) t (sn.map (·.2)) v = lawVal L t (sn.map (·.2)) .non ∧ σ' = [some (.ref lr), some tv, some sv, some x3, x4, x5])
      ⟨L2.Same.refl _, .non, .non, none, none, Tp.non, rfl, rfl⟩ (fun i σ' H' ⟨s, _⟩ => ⟨fun o e => s _ _ e, s.t⟩) ?_ ?_
    · rintro i d v4 σ' H2 hd t4 ⟨s2, v, x3, x4, x5, t3, ev, rfl⟩
      rw [List.getElem?_map] at hd
      cases hg : L[i]? with
      | none => rw [hg] at hd; cases hd
      | some r =>
        rw [hg] at hd
        cases hd
        have SS : ∀ (H' : Hp) (x3 : V) (x5 : Option V), Tups H2 H' → SlD H' [none, some (topD t), some (snD sn), none, some (recD r)] [some (.ref lr), some tv, some sv, some x3, some v4, x5] := fun H' x3 x5 tu =>
          ⟨⟨tv, rfl, (tt.mono (s1.trans s2).t).mono tu⟩, ⟨sv, rfl, (ts0.mono (s1.trans s2).t).mono tu⟩, ⟨v4, rfl, t4.mono tu⟩, trivial⟩
        have r2 := (L2.Same.refl H2).t
        -- the turn, once the record is seen
        have go : cnt (sn.map (·.2)) r.ord = true → lawVal (L.drop (i + 1)) t (sn.map (·.2)) (stepL t v r) = lawVal L t (sn.map (·.2)) .non := fun hc => by
          rw [← ev, law_go hg hc]
        refine ⟨fun σ' H' => cnt (sn.map (·.2)) r.ord = true ∧ H' = H2 ∧ σ' = [some (.ref lr), some tv, some sv, some x3, some v4, x5], ?_, ?_⟩
        · refine ⟨_, _, SS _ _ _ r2, rfl, ?_⟩
          cases sn with
          | none =>
            refine iteF' rfl (iteF' rfl ?_)
            exact ⟨rfl, rfl, rfl⟩
          | some z =>
            refine iteT' rfl ?_
            refine ⟨_, r.ord, z.2, SS _ _ _ r2, rfl, rfl, ?_⟩
            by_cases hz : z.2 ≤ r.ord
            · refine iteT' (decide_eq_true hz) ?_
              refine ⟨_, rfl, k x3 H2 (s1.trans s2) ?_⟩
              have hc : cnt ((some z).map (·.2)) r.ord = false := decide_eq_false (by show ¬ r.ord < z.2; omega)
              rw [← ev, law_stop hg hc]
              exact t3
            · refine iteF' (decide_eq_false hz) ?_
              exact ⟨decide_eq_true (by show r.ord < z.2; omega), rfl, rfl⟩
        · rintro σ' H' ⟨hc, rfl, rfl⟩
          refine ⟨_, rfl, r, v4, rfl, t4, rfl, fun le H3 s3 hle hle2 => ⟨le, rfl, ?_⟩⟩
          have g2 := go hc
          refine for_lstD hle2 (fun j σ' H' => L2.Same H3 H' ∧ ∃ (y3 : V) (y5 : Option V), Tp H' (vlD (((effL r).take j).foldl (step1 t) v)) y3 ∧ σ' = [some (.ref lr), some tv, some sv, some y3, some v4, y5])
            ⟨L2.Same.refl _, x3, x5, t3.mono s3.t, rfl⟩ (fun i σ' H' ⟨s, _⟩ => ⟨fun o e => s _ _ e, s.t⟩) ?_ ?_
          · rintro j d v5 σ' H4 hd t5 ⟨s4, y3, y5, u3, rfl⟩
            rw [List.getElem?_map] at hd
            cases hh : (effL r)[j]? with
            | none => rw [hh] at hd; cases hd
            | some e =>
              rw [hh] at hd
              cases hd
              have s34 := s3.trans s4
              have S5 : ∀ (H' : Hp) (x3 : V), L2.Same H4 H' → SlD H' [none, some (topD t), none, none, none, some (effD e)] [some (.ref lr), some tv, some sv, some x3, some v4, some v5] := fun H' x3 s5 =>
                ⟨⟨tv, rfl, (tt.mono (s1.trans s2).t).mono (s34.trans s5).t⟩, ⟨v5, rfl, t5.mono s5.t⟩, trivial⟩
              refine ⟨fun σ' H' => ∃ (z3 : V) (vv : Vl), L2.Same H4 H' ∧ vv = (if e.1 = t then e.2 else ((effL r).take j).foldl (step1 t) v) ∧ Tp H' (vlD vv) z3 ∧ σ' = [some (.ref lr), some tv, some sv, some z3, some v4, some v5], ?_, ?_⟩
              · refine ⟨_, _, _, S5 _ _ (L2.Same.refl _), rfl, rfl, shaped_top _, shaped_top _, fun H5 s5 => ?_⟩
                rw [eqv_top]
                by_cases he : e.1 = t
                · refine iteT' (decide_eq_true he) ?_
                  refine ⟨_, _, S5 _ _ s5, rfl, fun z3 tz => ?_⟩
                  exact ⟨z3, e.2, s5, by rw [if_pos he], tz, rfl⟩
                · refine iteF' (decide_eq_false he) ?_
                  exact ⟨y3, _, s5, by rw [if_neg he], u3.mono s5.t, rfl⟩
              · rintro σ' H5 ⟨z3, vv, s5, hv, tz, rfl⟩
                refine ⟨_, _, _, S5 _ z3 s5, rfl, dtup2 rfl (ixC (x := dVar 1) rfl (topD1 t)), shaped_top _, shaped_top (.gone t.snd), fun H6 s6 => ?_⟩
                rw [show (PyData.tuple [.str "gone", .int t.snd]) = topD (.gone t.snd) from rfl, eqv_top]
                have fin : ∀ (q3 : V) (H' : Hp), L2.Same H5 H' → Tp H' (vlD (step1 t (((effL r).take j).foldl (step1 t) v) e)) q3 → L2.Same H3 H' ∧ ∃ (y3 : V) (y5 : Option V), Tp H' (vlD (((effL r).take (j + 1)).foldl (step1 t) v)) y3 ∧ [some (.ref lr), some tv, some sv, some q3, some v4, some v5] = [some (.ref lr), some tv, some sv, some y3, some v4, y5] :=
                  fun q3 H' s7 tq => ⟨(s4.trans s5).trans s7, q3, _, by rw [fold_snoc _ _ _ _ _ hh]; exact tq, rfl⟩
                rw [step1_eq, ← hv] at fin
                cases h1 : decide (e.1 = Topic.gone t.snd) with
                | false =>
                  refine iteF' rfl (iteF' rfl ?_)
                  refine fin z3 H6 s6 ?_
                  rw [h1, Bool.false_and, if_neg Bool.false_ne_true]
                  exact tz.mono s6.t
                | true =>
                  refine iteT' rfl ?_
                  refine ⟨_, topN t, ["gone", "told"], S5 _ z3 (s5.trans s6), ixC (x := dVar 1) rfl (topD0 t), rfl, ble1 rfl, fun H7 s7 => ?_⟩
                  rw [contains_gt]
                  cases h2 : t.isGone || t.told? with
                  | true =>
                    refine iteF' rfl ?_
                    refine fin z3 H7 (s6.trans s7) ?_
                    rw [h1, h2, if_neg (by decide)]
                    exact tz.mono (s6.trans s7).t
                  | false =>
                    refine iteT' rfl ?_
                    refine fin .non H7 (s6.trans s7) ?_
                    rw [h1, h2, if_pos (by decide)]
                    exact Tp.non
          · rintro σ' H4 ⟨s4, y3, y5, u3, rfl⟩
            rw [List.length_map, List.take_length] at u3
            exact ⟨(s2.trans s3).trans s4, _, y3, _, y5, u3, g2, rfl⟩
    · rintro σ' H2 ⟨s2, v, x3, x4, x5, t3, ev, rfl⟩
      rw [List.length_map, List.drop_length] at ev
      refine ⟨_, rfl, k x3 H2 (s1.trans s2) ?_⟩
      rw [← ev]
      exact t3
end
end K13
/-! ## K13G -/
/-! The law's topics. -/
namespace K13
open PySem L2
abbrev sLTop : Stmt := top 22
/-! ### in plain words -/
def addT (ts : List Topic) (e : Topic × Vl) : List Topic := if e.1 ∉ ts ∧ e.1.isGone = false then ts ++ [e.1] else ts
def tops (E : List (Topic × Vl)) (ts : List Topic) : List Topic := E.foldl addT ts
def topics (L : List Rec) : List Topic := tops (L.flatMap effL) []
theorem addT_nd {ts : List Topic} {e : Topic × Vl} (h : ts.Nodup) : (addT ts e).Nodup := by
  unfold addT
  split
  · rename_i q
    refine List.nodup_append.mpr ⟨h, (List.nodup_cons.mpr ⟨by simp, List.nodup_nil⟩), fun a ha b hb => ?_⟩
    rw [List.mem_singleton.mp hb]
    intro z
    exact q.1 (by rw [← z]; exact ha)
  · exact h
theorem mem_addT {ts : List Topic} {e : Topic × Vl} {t : Topic} : t ∈ addT ts e ↔ t ∈ ts ∨ (e.1 = t ∧ t.isGone = false) := by
  unfold addT
  split
  · rename_i q
    rw [List.mem_append, List.mem_singleton]
    constructor
    · rintro (h | h)
      · exact .inl h
      · exact .inr ⟨h.symm, by rw [h]; exact q.2⟩
    · rintro (h | ⟨h, _⟩)
      · exact .inl h
      · exact .inr h.symm
  · rename_i q
    constructor
    · exact .inl
    · rintro (h | ⟨h, g⟩)
      · exact h
      · refine Classical.byContradiction fun z => q ⟨by rw [h]; exact z, by rw [h]; exact g⟩
theorem addT_len {ts : List Topic} {e : Topic × Vl} : (addT ts e).length ≤ ts.length + 1 := by
  unfold addT
  split
  · rw [List.length_append]; exact Nat.le_refl _
  · exact Nat.le_succ _
theorem tops_nd : ∀ (E : List (Topic × Vl)) {ts : List Topic}, ts.Nodup → (tops E ts).Nodup
  | [], _, h => h
  | e :: E, _, h => tops_nd E (addT_nd h)
theorem mem_tops {t : Topic} : ∀ (E : List (Topic × Vl)) {ts : List Topic}, t ∈ tops E ts ↔ t ∈ ts ∨ (t.isGone = false ∧ ∃ e ∈ E, e.1 = t)
  | [], _ => ⟨.inl, fun h => h.elim id fun ⟨_, e, h, _⟩ => by cases h⟩
  | e :: E, ts => by
    show t ∈ tops E (addT ts e) ↔ _
    rw [mem_tops E, mem_addT]
    constructor
    · rintro ((h | ⟨h1, h2⟩) | ⟨h1, e', h2, h3⟩)
      · exact .inl h
      · exact .inr ⟨h2, e, List.mem_cons_self, h1⟩
      · exact .inr ⟨h1, e', List.mem_cons_of_mem _ h2, h3⟩
    · rintro (h | ⟨h1, e', h2, h3⟩)
      · exact .inl (.inl h)
      · rcases List.mem_cons.mp h2 with z | z
        · exact .inl (.inr ⟨by rw [← z]; exact h3, h1⟩)
        · exact .inr ⟨h1, e', z, h3⟩
theorem tops_len : ∀ (E : List (Topic × Vl)) {ts : List Topic}, (tops E ts).length ≤ ts.length + E.length
  | [], _ => Nat.le_refl _
  | e :: E, ts => by
    have h1 := tops_len E (ts := addT ts e)
    have h2 := addT_len (ts := ts) (e := e)
    show (tops E (addT ts e)).length ≤ ts.length + (E.length + 1)
    omega
theorem flat_len : ∀ (L : List Rec), (L.flatMap effL).length ≤ 2 * L.length
  | [] => Nat.le_refl _
  | r :: L => by
    have h1 := flat_len L
    have h2 := effL_len r
    rw [List.flatMap_cons, List.length_append, List.length_cons]
    omega
theorem effL_asked {r : Rec} {e : Topic × Vl} (h : e ∈ effL r) : e.1.isHost = false := by
  obtain ⟨o, kd, ho, se, c⟩ := r
  cases kd with
  | leave n held => cases held <;> simp [effL] at h <;> first | (subst h; rfl) | (rcases h with h | h <;> subst h <;> rfl)
  | preempt n v w => cases w <;> simp [effL] at h <;> first | (subst h; rfl) | (rcases h with h | h <;> subst h <;> rfl)
  | _ => simp [effL] at h; subst h; rfl
theorem asked_iff (t : Topic) : t.asked = (!t.isGone && !t.isHost) := by cases t <;> rfl
theorem topics_asked {L : List Rec} {t : Topic} (h : t ∈ topics L) : t.asked = true := by
  rcases (mem_tops _).mp h with h | ⟨h1, e, h2, h3⟩
  · cases h
  · obtain ⟨r, _, hr⟩ := List.mem_flatMap.mp h2
    have := effL_asked hr
    rw [h3] at this
    rw [asked_iff, h1, this]
    rfl
theorem topics_len (L : List Rec) : (topics L).length ≤ 2 * L.length := by
  have h1 := tops_len (L.flatMap effL) (ts := [])
  have h2 := flat_len L
  rw [List.length_nil] at h1
  show (tops _ _).length ≤ _
  omega
/-! ### the walk -/
def spTops : Sp := fun vs H Q _ => ∃ (lr : Addr) (L : List Rec), vs = [.ref lr] ∧ LstD H lr (L.map recD) ∧ L.length ≤ 60 ∧
  ∀ l H', L2.Same H H' → H l = none → LstD H' l ((topics L).map topD) → Q (.ref l) H'
abbrev NLT : List Str := ["_law_records_here", "_law_topics_here", "_law_record", "_law_effect"]
section
variable {P : Program} {w : World} {K : PySem.W.Frag} {mg : Str → Option Value} {base : Heap}
theorem scLTop : FnScope NLT ["_law_records_here"] (defScope sLTop) := ⟨rfl, rfl, rfl, by decide +kernel, rfl, by decide +kernel, by decide +kernel⟩
theorem sq_gone (t : Topic) : sq true (topN t) "gone" = !t.isGone := by cases t <;> (dsimp only [topN, Topic.isGone]; decide +kernel)
theorem ok_ltop {f fE : Addr} {fd fdE : FuncData} (F : Fun K "_law_topics" "_law_topics" sLTop f fd)
    (FE : Fun K "_law_effects" "_law_effects" sLEff fE fdE) (gE : mg "_law_effects" = some (.ref fE)) (bE : Binds K fdE ["_law_record"] []) :
    FnOk P w K mg base CX0 2 f fd ["_law_records_here"] spTops := by
  have GE : FnOk P w K mg base CX0 1 fE fdE ["_law_record"] (spEffs (fun _ => true) effL) := ok_leff FE
  refine F.ok scLTop (fun vs H Q E h => ?_) (fun cdv A outer s H vs Q E hr h => ?_)
  · obtain ⟨lr, L, rfl, _⟩ := h
    rfl
  · obtain ⟨lr, L, rfl, hl, hn, k⟩ := h
    have nd := scLTop.nd
    have hu : (A.deeper (PyProof.Rows.envOfC "_law_topics" (defScope sLTop) s.heap.objs.size f cdv)).units + 65 < cLine := by have := hr.un; omega
    refine ⟨_, pss_cons (ps_set (i := 1) nd rfl (.inl rfl) (pe_lst pa_nil))
      (pss_cons (ps_for PassesOwn.never rfl (pi_list (pv 0)) (pg_name (i := 2) nd rfl (.inl rfl))
        (pss_one (ps_for PassesOwn.never rfl (pi_list (pe_call GE hr (by rfl) gE FE.kp bE .nil pass0 (pa_cons (pv 2) pa_nil))) (pg_name (i := 3) nd rfl (.inl rfl))
          (pss_one (ps_if (pw_and (pt_cmpR (op_notInD hu) (pd_ix (pr_var 3)) (pv 1) rfl) (pw_and1 (pt_sne (pr_ix (pr_ix (pr_var 3))) pr_str))).pt
            (pss_one (ps_expr (pe_bm PySem.F.plainAttrs_list PySem.F.slot_list_append PySem.F.type_list_append mt_append (pv 1) (pa_cons (pr_ix (pr_var 3)) pa_nil)))) pss_nil)))))
      (pss_one (ps_ret (pv 1)))), ?_⟩
    refine ⟨Nat.zero_le _, fun l hl0 => ?_⟩
    have s1 := same_upd (o := .lst []) hl0
    have ne : lr ≠ l := fun e => by
      obtain ⟨_, h1, _⟩ := hl
      rw [e, hl0] at h1
      cases h1
    have hl1 := hl.mono s1
    have h0 : LstD (upd H l (.lst [])) l (([] : List Topic).map topD) := ⟨[], upd_same, TpAll.nil⟩
    have fin : ∀ H', Bar [l] (upd H l (.lst [])) H' → LstD H' l ((topics L).map topD) → Q (.ref l) H' := fun H' B h => k l H' (B.same s1 fun x hx => by rw [List.mem_singleton.mp hx]; exact hl0) hl0 h
    generalize upd H l (.lst []) = H1 at hl1 h0 fin
    refine ⟨_, rfl, lr, rfl, ?_⟩
    refine for_lstD hl1 (fun i σ' H' => Bar [l] H1 H' ∧ LstD H' l ((tops ((L.take i).flatMap effL) []).map topD) ∧ ∃ x2 x3 : Option V, σ' = [some (.ref lr), some (.ref l), x2, x3])
      ⟨Bar.refl _ _, h0, none, none, rfl⟩ (fun i σ' H' ⟨B, _⟩ => ⟨fun o e => B.keep _ _ e (by simp [ne]), B.t⟩) ?_ ?_
    · rintro i d v2 σ' H2 hd t2 ⟨B2, hl2, x2, x3, rfl⟩
      rw [List.getElem?_map] at hd
      cases hg : L[i]? with
      | none => rw [hg] at hd; cases hd
      | some r =>
        rw [hg] at hd
        cases hd
        refine ⟨_, rfl, r, v2, rfl, t2, rfl, fun le H3 s3 hle hle2 => ⟨le, rfl, ?_⟩⟩
        have nle : le ≠ l := fun e => by
          obtain ⟨_, h1, _⟩ := hl2
          rw [e, h1] at hle
          cases hle
        have tk : (L.take (i + 1)).flatMap effL = (L.take i).flatMap effL ++ effL r := by
          rw [List.take_add_one, hg, List.flatMap_append]
          simp
        have hi := (List.getElem?_eq_some_iff.mp hg).1
        have hB : ∀ j, (tops ((effL r).take j) (tops ((L.take i).flatMap effL) [])).length ≤ 1000 := fun j => by
          have h1 := tops_len ((effL r).take j) (ts := tops ((L.take i).flatMap effL) [])
          have h2 := tops_len ((L.take i).flatMap effL) (ts := [])
          have h3 := flat_len (L.take i)
          have h4 := effL_len r
          simp only [List.length_take, List.length_nil] at h1 h2 h3
          omega
        refine for_lstD hle2 (fun j σ' H' => Bar [l] H3 H' ∧ LstD H' l ((tops ((effL r).take j) (tops ((L.take i).flatMap effL) [])).map topD) ∧ ∃ x3 : Option V, σ' = [some (.ref lr), some (.ref l), some v2, x3])
          ⟨Bar.refl _ _, hl2.mono s3, x3, rfl⟩ (fun i σ' H' ⟨B, _⟩ => ⟨fun o e => B.keep _ _ e (by simp [nle]), B.t⟩) ?_ ?_
        · rintro j d v3 σ' H4 hd t3 ⟨B4, hl4, y3, rfl⟩
          rw [List.getElem?_map] at hd
          cases hh : (effL r)[j]? with
          | none => rw [hh] at hd; cases hd
          | some e =>
            rw [hh] at hd
            cases hd
            have S4 : ∀ H', Tups H4 H' → SlD H' [none, none, none, some (effD e)] [some (.ref lr), some (.ref l), some v2, some v3] := fun H' tu => ⟨⟨v3, rfl, t3.mono tu⟩, trivial⟩
            have nx : tops ((effL r).take (j + 1)) (tops ((L.take i).flatMap effL) []) = addT (tops ((effL r).take j) (tops ((L.take i).flatMap effL) [])) e := fold_snoc _ _ _ _ _ hh
            have hb := hB j
            generalize tops ((effL r).take j) (tops ((L.take i).flatMap effL) []) = ts at hl4 nx hb
            obtain ⟨us, h1, h2⟩ := id hl4
            refine ⟨_, _, S4 _ (fun _ _ e => e), rfl, fun v5 H5 s5 t5 => ?_⟩
            refine ⟨_, rfl, topD e.1, ts.map topD, t5.dp, .lst (SqL.of (s5 _ _ h1)) (h2.mono s5.t).dp, shaped_top _, shaped_tops _, _, rfl, ?_⟩
            rw [any_tops]
            by_cases hin : e.1 ∈ ts
            · refine iteF' (by rw [decide_eq_true hin]; rfl) ?_
              refine iteF' rfl ?_
              refine ⟨B4.trans (s5.bar _), ?_, _, rfl⟩
              rw [nx, addT, if_neg fun z => z.1 hin]
              exact hl4.mono s5
            · refine iteT' (by rw [decide_eq_false hin]; rfl) ?_
              refine ⟨_, topN e.1, _, S4 _ s5.t, ixC (x := dIx (dVar 3) 0) rfl (topD0 e.1), rfl, ?_⟩
              rw [sq_gone]
              cases hgo : e.1.isGone with
              | true =>
                refine iteF' rfl ?_
                refine ⟨B4.trans (s5.bar _), ?_, _, rfl⟩
                rw [nx, addT, if_neg fun z => by rw [hgo] at z; cases z.2]
                exact hl4.mono s5
              | false =>
                refine iteT' rfl ?_
                refine ⟨_, rfl, .inl ⟨rfl, _, .inl (.inl (s5 _ _ h1))⟩, _, _, S4 _ s5.t, rfl, fun v tv => ⟨l, us, v, rfl, rfl, s5 _ _ h1, ?_, ?_⟩⟩
                · have := h2.length
                  rw [List.length_map] at this
                  rw [sizeLine_eq]
                  omega
                · have bl : Bar [l] H5 (upd H5 l (.lst (us ++ [v]))) := Bar.lst (s5 _ _ h1)
                  refine ⟨B4.trans ((s5.bar _).trans bl), ⟨us ++ [v], upd_same, ?_⟩, _, rfl⟩
                  rw [nx, addT, if_pos ⟨hin, hgo⟩, List.map_append]
                  exact ((h2.mono s5.t).mono bl.t).append (TpAll.one (tv.mono bl.t))
        · rintro σ' H4 ⟨B4, hl4, y3, rfl⟩
          refine ⟨B2.trans ((s3.bar _).trans B4), ?_, _, _, rfl⟩
          rw [List.length_map, List.take_length] at hl4
          rw [tk, tops, List.foldl_append]
          exact hl4
    · rintro σ' H2 ⟨B2, hl2, x2, x3, rfl⟩
      rw [List.length_map, List.take_length] at hl2
      exact ⟨_, rfl, fin H2 B2 hl2⟩
end
end K13
/-! ## K13H -/
/-! The law's views. -/
namespace K13
open PySem L2
abbrev sLVws : Stmt := top 23
def snapOf : Topic → Option (Int × Int)
  | .snap n k => some (n, k)
  | _ => none
/-- one topic's view -/
def vw1 (L : List Rec) (t : Topic) : Option (Int × Int) := if lawVal L t none .non = .non then none else snapOf t
def views (L : List Rec) : List (Int × Int) := (topics L).filterMap (vw1 L)
theorem snapOf_inj {a b : Topic} {z : Int × Int} (h1 : snapOf a = some z) (h2 : snapOf b = some z) : a = b := by
  cases a <;> cases h1 <;> cases b <;> cases h2 <;> rfl
theorem vw1_snap {L : List Rec} {t : Topic} {z : Int × Int} (h : vw1 L t = some z) : snapOf t = some z := by
  unfold vw1 at h
  split at h
  · cases h
  · exact h
theorem nodup_fm {α β : Type} {f : α → Option β} (inj : ∀ a b z, f a = some z → f b = some z → a = b) : ∀ {l : List α}, l.Nodup → (l.filterMap f).Nodup
  | [], _ => List.nodup_nil
  | x :: l, h => by
    rw [List.nodup_cons] at h
    rw [List.filterMap_cons]
    cases e : f x with
    | none => exact nodup_fm inj h.2
    | some z =>
      refine List.nodup_cons.mpr ⟨fun hm => ?_, nodup_fm inj h.2⟩
      obtain ⟨y, hy, ey⟩ := List.mem_filterMap.mp hm
      exact h.1 (by rw [inj x y z e ey]; exact hy)
theorem views_nd (L : List Rec) : (views L).Nodup := nodup_fm (fun a b z h1 h2 => snapOf_inj (vw1_snap h1) (vw1_snap h2)) (tops_nd _ List.nodup_nil)
theorem mem_views {L : List Rec} (hA : Asc L) {z : Int × Int} : z ∈ views L ↔ ex L z.1 z.2 := by
  obtain ⟨n, k⟩ := z
  unfold views
  rw [List.mem_filterMap]
  constructor
  · rintro ⟨t, _, h⟩
    have h1 := vw1_snap h
    unfold vw1 at h
    split at h
    · cases h
    · rename_i hv
      cases t <;> cases h1
      rw [lawVal_eq (t := .snap n k) rfl hA] at hv
      exact hv
  · intro h
    refine ⟨.snap n k, (mem_tops _).mpr (.inr ⟨rfl, ?_⟩), ?_⟩
    · obtain ⟨r, hr, h1, h2, _⟩ := ex_rec h
      refine ⟨(.snap n k, .num k), List.mem_flatMap.mpr ⟨r, hr, ?_⟩, rfl⟩
      obtain ⟨o, kd, ho, se, c⟩ := r
      cases h1
      cases h2
      exact List.mem_singleton.mpr rfl
    · unfold vw1
      rw [lawVal_eq (t := .snap n k) rfl hA, if_neg h]
      rfl
theorem views_len (L : List Rec) : (views L).length ≤ 2 * L.length := Nat.le_trans (List.length_filterMap_le _ _) (topics_len L)
def spVws : Sp := fun vs H Q _ => ∃ (lr : Addr) (L : List Rec), vs = [.ref lr] ∧ LstD H lr (L.map recD) ∧ Asc L ∧ L.length ≤ 60 ∧
  ∀ l H', L2.Same H H' → H l = none → LstD H' l ((views L).map snapD) → Q (.ref l) H'
abbrev NLW : List Str := ["_law_records_here", "_law_views_here", "_law_topic"]
section
variable {P : Program} {w : World} {K : PySem.W.Frag} {mg : Str → Option Value} {base : Heap}
theorem scLVws : FnScope NLW ["_law_records_here"] (defScope sLVws) := ⟨rfl, rfl, rfl, by decide +kernel, rfl, by decide +kernel, by decide +kernel⟩
theorem sq_snap (t : Topic) : sq false (topN t) "snap" = (snapOf t).isSome := by cases t <;> (dsimp only [topN, snapOf, Option.isSome_some, Option.isSome_none]; decide +kernel)
theorem ok_lvws {f fT fV : Addr} {fd fdT fdV : FuncData} (F : Fun K "_law_views" "_law_views" sLVws f fd)
    (GT : FnOk P w K mg base CX0 2 fT fdT ["_law_records_here"] spTops) (gT : mg "_law_topics" = some (.ref fT)) (kT : PySem.W.keepIn K (.ref fT) = true) (bT : Binds K fdT ["_law_records_here"] [])
    (GV : FnOk P w K mg base CX0 2 fV fdV ["_law_records_here", "_law_topic", "_law_view"] spLVal) (gV : mg "_law_value" = some (.ref fV)) (kV : PySem.W.keepIn K (.ref fV) = true) (bV : Binds K fdV ["_law_records_here", "_law_topic", "_law_view"] []) :
    FnOk P w K mg base CX0 3 f fd ["_law_records_here"] spVws := by
  refine F.ok scLVws (fun vs H Q E h => ?_) (fun cdv A outer s H vs Q E hr h => ?_)
  · obtain ⟨lr, L, rfl, _⟩ := h
    rfl
  · obtain ⟨lr, L, rfl, hl, hA, hn, k⟩ := h
    have nd := scLVws.nd
    refine ⟨_, pss_cons (ps_set (i := 1) nd rfl (.inl rfl) (pe_lst pa_nil))
      (pss_cons (ps_for PassesOwn.never rfl (pi_list (pe_call GT hr (by rfl) gT kT bT .nil pass0 (pa_cons (pv 0) pa_nil))) (pg_name (i := 2) nd rfl (.inl rfl))
        (pss_one (ps_if (pw_and (pt_seq (pr_ix (pr_var 2)) pr_str) (pw_and1 (pt_cmp (pc_notN (pe_call GV hr (by rfl) gV kV bV .nil pass0 (pa_cons (pv 0) (pa_cons (pv 2) (pa_cons pe_non pa_nil)))))))).pt
          (pss_one (ps_expr (pe_bm PySem.F.plainAttrs_list PySem.F.slot_list_append PySem.F.type_list_append mt_append (pv 1) (pds_cons (pd_tup (pds_cons (pd_ix (pr_var 2)) (pds_cons (pd_ix (pr_var 2)) pds_nil))) pds_nil)))) pss_nil)))
      (pss_one (ps_ret (pv 1)))), ?_⟩
    refine ⟨Nat.zero_le _, fun l hl0 => ?_⟩
    have s1 := same_upd (o := .lst []) hl0
    have ne : lr ≠ l := fun e => by
      obtain ⟨_, h1, _⟩ := hl
      rw [e, hl0] at h1
      cases h1
    have hl1 := hl.mono s1
    have h0 : LstD (upd H l (.lst [])) l (([] : List (Int × Int)).map snapD) := ⟨[], upd_same, TpAll.nil⟩
    have fin : ∀ H', Bar [l] (upd H l (.lst [])) H' → LstD H' l ((views L).map snapD) → Q (.ref l) H' := fun H' B h => k l H' (B.same s1 fun x hx => by rw [List.mem_singleton.mp hx]; exact hl0) hl0 h
    generalize upd H l (.lst []) = H1 at hl1 h0 fin
    refine ⟨_, rfl, lr, L, rfl, hl1, hn, fun tp H2 s2 htp htt => ⟨tp, rfl, ?_⟩⟩
    have ntp : tp ≠ l := fun e => by
      obtain ⟨_, h1, _⟩ := h0
      rw [e, h1] at htp
      cases htp
    refine for_lstD htt (fun i σ' H' => Bar [l] H2 H' ∧ LstD H' l ((((topics L).take i).filterMap (vw1 L)).map snapD) ∧ ∃ x2 : Option V, σ' = [some (.ref lr), some (.ref l), x2])
      ⟨Bar.refl _ _, h0.mono s2, none, rfl⟩ (fun i σ' H' ⟨B, _⟩ => ⟨fun o e => B.keep _ _ e (by simp [ntp]), B.t⟩) ?_ ?_
    · rintro i d v2 σ' H3 hd t2 ⟨B3, hl3, x2, rfl⟩
      rw [List.getElem?_map] at hd
      cases hg : (topics L)[i]? with
      | none => rw [hg] at hd; cases hd
      | some t =>
        rw [hg] at hd
        cases hd
        have hi := (List.getElem?_eq_some_iff.mp hg).1
        have tk : ((topics L).take (i + 1)).filterMap (vw1 L) = ((topics L).take i).filterMap (vw1 L) ++ (vw1 L t).toList := by
          rw [List.take_add_one, hg, List.filterMap_append]
          have e1 : List.filterMap (vw1 L) (some t).toList = (vw1 L t).toList := by
            show List.filterMap (vw1 L) [t] = _
            rw [List.filterMap_cons]
            cases vw1 L t <;> rfl
          rw [e1]
        have hb : (((topics L).take i).filterMap (vw1 L)).length ≤ 200 := by
          have h1 := List.length_filterMap_le (vw1 L) ((topics L).take i)
          have h2 := topics_len L
          rw [List.length_take] at h1
          omega
        have S3 : ∀ H', Tups H3 H' → SlD H' [none, none, some (topD t)] [some (.ref lr), some (.ref l), some v2] := fun H' tu => ⟨⟨v2, rfl, t2.mono tu⟩, trivial⟩
        have stay : ∀ H', L2.Same H3 H' → vw1 L t = none → Bar [l] H2 H' ∧ LstD H' l ((((topics L).take (i + 1)).filterMap (vw1 L)).map snapD) ∧ ∃ x2 : Option V, [some (.ref lr), some (.ref l), some v2] = [some (.ref lr), some (.ref l), x2] := fun H' s3 hv =>
          ⟨B3.trans (s3.bar _), by rw [tk, hv]; simpa using hl3.mono s3, _, rfl⟩
        refine ⟨_, topN t, _, S3 _ (fun _ _ e => e), ixC (x := dVar 2) rfl (topD0 t), rfl, ?_⟩
        rw [sq_snap]
        cases hz : snapOf t with
        | none =>
          refine iteF' rfl (iteF' rfl ?_)
          refine stay H3 (L2.Same.refl _) ?_
          unfold vw1
          simp [hz]
        | some z =>
          refine iteT' rfl ?_
          have hlr : LstD H3 lr (L.map recD) := (hl1.mono s2).bar B3 (by simp [ne])
          refine ⟨_, rfl, _, rfl, lr, L, t, v2, .non, none, rfl, hlr, hA, t2, Tp.non, fun v4 H4 s4 t4 => ⟨_, rfl, ?_⟩⟩
          rw [isN_eq t4, isN_vl]
          by_cases hv : lawVal L t none .non = .non
          · refine iteF' (by show (!decide (lawVal L t none .non = .non)) = false; rw [decide_eq_true hv]; rfl) ?_
            refine stay H4 s4 ?_
            unfold vw1
            rw [if_pos hv]
          · refine iteT' (by show (!decide (lawVal L t none .non = .non)) = true; rw [decide_eq_false hv]; rfl) ?_
            obtain ⟨us, h1, h2⟩ := id hl3
            have hul := h2.length
            rw [List.length_map] at hul
            obtain ⟨n, kk⟩ := z
            refine ⟨_, rfl, .inl ⟨rfl, _, .inl (.inl (s4 _ _ h1))⟩, _, [snapD (n, kk)], S3 _ s4.t, ?_, fun vs5 H5 s5 t5 => ?_⟩
            · cases t <;> cases hz
              rfl
            obtain ⟨v5, rfl, t6⟩ := tp_one t5
            have h5 := s5 _ _ (s4 _ _ h1)
            refine ⟨l, us, v5, rfl, rfl, h5, by rw [sizeLine_eq]; omega, ?_⟩
            have bl : Bar [l] H5 (upd H5 l (.lst (us ++ [v5]))) := Bar.lst h5
            have hw : vw1 L t = some (n, kk) := by
              unfold vw1
              rw [if_neg hv, hz]
            refine ⟨B3.trans ((s4.bar _).trans ((s5.bar _).trans bl)), ⟨us ++ [v5], upd_same, ?_⟩, _, rfl⟩
            rw [tk, hw, List.map_append]
            exact ((h2.mono (s4.trans s5).t).mono bl.t).append (TpAll.one (t6.mono bl.t))
    · rintro σ' H3 ⟨B3, hl3, x2, rfl⟩
      rw [List.length_map, List.take_length] at hl3
      exact ⟨_, rfl, fin H3 ((s2.bar _).trans B3) hl3⟩
end
end K13
/-! ## K13D -/
/-! What the law sees, and what is due. -/
namespace K13
open PySem L2
abbrev sLSeen : Stmt := top 24
abbrev sLDue : Stmt := top 25
def sv1 (g : Topic → Option Int → Vl) (t : Topic) (z : Int × Int) : Option Vl := if (t.isPlace && decide (t.snd = z.1)) = true then some (g t (some z.2)) else none
def seen1 (g : Topic → Option Int → Vl) (vs : List (Int × Int)) (t : Topic) : List Vl := g t none :: vs.filterMap (sv1 g t)
def seenV (g : Topic → Option Int → Vl) (ts : List Topic) (vs : List (Int × Int)) : List Vl := ts.flatMap (seen1 g vs)
theorem seenV_len (g : Topic → Option Int → Vl) (vs : List (Int × Int)) : ∀ ts : List Topic, (seenV g ts vs).length ≤ ts.length * (vs.length + 1)
  | [] => Nat.zero_le _
  | t :: ts => by
    have h1 := seenV_len g vs ts
    have h2 := List.length_filterMap_le (sv1 g t) vs
    show (seen1 g vs t ++ seenV g ts vs).length ≤ _
    rw [List.length_append, List.length_cons, Nat.succ_mul]
    show (List.filterMap (sv1 g t) vs).length + 1 + (seenV g ts vs).length ≤ _
    omega
def spRowsOf (g : List Rec → Topic → Option Int → Vl) : Sp := fun us H Q _ => ∃ (lr tl vl : Addr) (L : List Rec) (ts : List Topic) (vs : List (Int × Int)), us = [.ref lr, .ref tl, .ref vl] ∧ LstD H lr (L.map recD) ∧ Asc L ∧ L.length ≤ 60 ∧ LstD H tl (ts.map topD) ∧ LstD H vl (vs.map snapD) ∧
  ts.length ≤ 60 ∧ vs.length ≤ 60 ∧ (∀ z ∈ vs, ex L z.1 z.2) ∧ ∀ l H', L2.Same H H' → H l = none → LstD H' l ((seenV (g L) ts vs).map vlD) → Q (.ref l) H'
abbrev NLS : List Str := ["_law_records_here", "_law_topics_here", "_law_views_here", "_law_rows", "_law_topic", "_law_view"]
theorem sq_place (t : Topic) : sq false (topN t) "place" = t.isPlace := by cases t <;> (dsimp only [topN, Topic.isPlace]; decide +kernel)
section
variable {P : Program} {w : World} {K : PySem.W.Frag} {mg : Str → Option Value} {base : Heap}
/-- the law's value, from nothing -/
abbrev lvOf (L : List Rec) (t : Topic) (w : Option Int) : Vl := lawVal L t w .non
theorem scLDue : FnScope NLS ["_law_records_here", "_law_topics_here", "_law_views_here"] (defScope sLDue) := ⟨rfl, rfl, rfl, by decide +kernel, rfl, by decide +kernel, by decide +kernel⟩
theorem ok_ldue {f fV : Addr} {fd fdV : FuncData} (F : Fun K "_law_due" "_law_due" sLDue f fd)
    (GV : FnOk P w K mg base CX0 2 fV fdV ["_law_records_here", "_law_topic", "_law_view"] spLVal) (gV : mg "_law_value" = some (.ref fV)) (kV : PySem.W.keepIn K (.ref fV) = true) (bV : Binds K fdV ["_law_records_here", "_law_topic", "_law_view"] []) :
    FnOk P w K mg base CX0 3 f fd ["_law_records_here", "_law_topics_here", "_law_views_here"] (spRowsOf lvOf) := by
  refine F.ok scLDue (fun vs H Q E h => ?_) (fun cdv A outer s H vs Q E hr h => ?_)
  · obtain ⟨lr, tl, vl, L, ts, vs, rfl, _⟩ := h
    rfl
  · obtain ⟨lr, tl, vl, L, ts, vs, rfl, hl, hA, hn, ht, hv, nt, nv, hex, k⟩ := h
    have nd := scLDue.nd
    refine ⟨_, pss_cons (ps_set (i := 3) nd rfl (.inl rfl) (pe_lst pa_nil))
      (pss_cons (ps_for PassesOwn.never rfl (pi_list (pv 1)) (pg_name (i := 4) nd rfl (.inl rfl))
        (pss_cons (ps_expr (pe_bm PySem.F.plainAttrs_list PySem.F.slot_list_append PySem.F.type_list_append mt_append (pv 3) (pa_cons (pe_call GV hr (by rfl) gV kV bV .nil pass0 (pa_cons (pv 0) (pa_cons (pv 4) (pa_cons pe_non pa_nil)))) pa_nil)))
        (pss_one (ps_for PassesOwn.never rfl (pi_list (pv 2)) (pg_name (i := 5) nd rfl (.inl rfl))
          (pss_one (ps_if (pw_and (pt_seq (pr_ix (pr_var 4)) pr_str) (pw_and1 (pt_icmp (p := fun i j => decide (i = j)) op_eqI (nomark _) (pr_ix (pr_var 4)) (pr_ix (pr_var 5))))).pt
            (pss_one (ps_expr (pe_bm PySem.F.plainAttrs_list PySem.F.slot_list_append PySem.F.type_list_append mt_append (pv 3) (pa_cons (pe_call GV hr (by rfl) gV kV bV .nil pass0 (pa_cons (pv 0) (pa_cons (pv 4) (pa_cons (pv 5) pa_nil)))) pa_nil)))) pss_nil))))))
      (pss_one (ps_ret (pv 3)))), ?_⟩
    refine ⟨Nat.zero_le _, fun l hl0 => ?_⟩
    have s1 := same_upd (o := .lst []) hl0
    have nl : ∀ {a : Addr} {ds : List PyData}, LstD H a ds → a ≠ l := fun ⟨_, h1, _⟩ e => by
      rw [e, hl0] at h1
      cases h1
    have n1 := nl hl
    have n2 := nl ht
    have n3 := nl hv
    have hl1 := hl.mono s1
    have ht1 := ht.mono s1
    have hv1 := hv.mono s1
    have h0 : LstD (upd H l (.lst [])) l (([] : List Vl).map vlD) := ⟨[], upd_same, TpAll.nil⟩
    have fin : ∀ H', Bar [l] (upd H l (.lst [])) H' → LstD H' l ((seenV (lvOf L) ts vs).map vlD) → Q (.ref l) H' := fun H' B h => k l H' (B.same s1 fun x hx => by rw [List.mem_singleton.mp hx]; exact hl0) hl0 h
    generalize upd H l (.lst []) = H1 at hl1 ht1 hv1 h0 fin
    refine ⟨_, rfl, tl, rfl, ?_⟩
    refine for_lstD ht1 (fun i σ' H' => Bar [l] H1 H' ∧ LstD H' l ((seenV (lvOf L) (ts.take i) vs).map vlD) ∧ ∃ x4 x5 : Option V, σ' = [some (.ref lr), some (.ref tl), some (.ref vl), some (.ref l), x4, x5])
      ⟨Bar.refl _ _, h0, none, none, rfl⟩ (fun i σ' H' ⟨B, _⟩ => ⟨fun o e => B.keep _ _ e (by simp [n2]), B.t⟩) ?_ ?_
    · rintro i d v4 σ' H2 hd t4 ⟨B2, hl2, x4, x5, rfl⟩
      rw [List.getElem?_map] at hd
      cases hg : ts[i]? with
      | none => rw [hg] at hd; cases hd
      | some t =>
        rw [hg] at hd
        cases hd
        have hi := (List.getElem?_eq_some_iff.mp hg).1
        have tk : seenV (lvOf L) (ts.take (i + 1)) vs = seenV (lvOf L) (ts.take i) vs ++ seen1 (lvOf L) vs t := by
          rw [List.take_add_one, hg, seenV, List.flatMap_append]
          simp [seenV]
        have hb : (seenV (lvOf L) (ts.take i) vs).length ≤ 60 * 61 := by
          have h1 := seenV_len (lvOf L) vs (ts.take i)
          have h2 : (ts.take i).length ≤ 60 := by rw [List.length_take]; omega
          exact Nat.le_trans h1 (Nat.mul_le_mul h2 (by omega))
        generalize seenV (lvOf L) (ts.take i) vs = R at hl2 tk hb
        have hlr : LstD H2 lr (L.map recD) := hl1.bar B2 (by simp [n1])
        obtain ⟨us, h1, h2⟩ := id hl2
        have hul := h2.length
        rw [List.length_map] at hul
        refine ⟨_, rfl, .inl ⟨rfl, _, .inl (.inl h1)⟩, _, rfl, _, rfl, lr, L, t, v4, .non, none, rfl, hlr, hA, t4, Tp.non, fun v5 H3 s3 t5 => ⟨l, us, v5, rfl, rfl, s3 _ _ h1, by rw [sizeLine_eq]; omega, ?_⟩⟩
        have bl : Bar [l] H3 (upd H3 l (.lst (us ++ [v5]))) := Bar.lst (s3 _ _ h1)
        have h3 : LstD (upd H3 l (.lst (us ++ [v5]))) l ((R ++ [lvOf L t none]).map vlD) := ⟨_, upd_same, by
          rw [List.map_append]
          exact ((h2.mono s3.t).mono bl.t).append (TpAll.one (t5.mono bl.t))⟩
        have B3 := B2.trans ((s3.bar _).trans bl)
        have t6 : Tp (upd H3 l (.lst (us ++ [v5]))) (topD t) v4 := t4.mono (s3.t.trans bl.t)
        generalize upd H3 l (.lst (us ++ [v5])) = H4 at h3 B3 t6
        have hv4 : LstD H4 vl (vs.map snapD) := hv1.bar B3 (by simp [n3])
        refine ⟨_, rfl, vl, rfl, ?_⟩
        refine for_lstD hv4 (fun j σ' H' => Bar [l] H4 H' ∧ LstD H' l ((R ++ (lvOf L t none :: (vs.take j).filterMap (sv1 (lvOf L) t))).map vlD) ∧ ∃ x5 : Option V, σ' = [some (.ref lr), some (.ref tl), some (.ref vl), some (.ref l), some v4, x5])
          ⟨Bar.refl _ _, h3, x5, rfl⟩ (fun i σ' H' ⟨B, _⟩ => ⟨fun o e => B.keep _ _ e (by simp [n3]), B.t⟩) ?_ ?_
        · rintro j d w5 σ' H5 hd u5 ⟨B5, hl5, y5, rfl⟩
          rw [List.getElem?_map] at hd
          cases hh : vs[j]? with
          | none => rw [hh] at hd; cases hd
          | some z =>
            rw [hh] at hd
            cases hd
            have hj := (List.getElem?_eq_some_iff.mp hh).1
            have tk2 : (vs.take (j + 1)).filterMap (sv1 (lvOf L) t) = (vs.take j).filterMap (sv1 (lvOf L) t) ++ (sv1 (lvOf L) t z).toList := by
              rw [List.take_add_one, hh, List.filterMap_append]
              have e1 : List.filterMap (sv1 (lvOf L) t) (some z).toList = (sv1 (lvOf L) t z).toList := by
                show List.filterMap (sv1 (lvOf L) t) [z] = _
                rw [List.filterMap_cons]
                cases sv1 (lvOf L) t z <;> rfl
              rw [e1]
            have hb2 : ((vs.take j).filterMap (sv1 (lvOf L) t)).length ≤ 60 := by
              have h1 := List.length_filterMap_le (sv1 (lvOf L) t) (vs.take j)
              rw [List.length_take] at h1
              omega
            have S5 : SlD H5 [none, none, none, none, some (topD t), some (snapD z)] [some (.ref lr), some (.ref tl), some (.ref vl), some (.ref l), some v4, some w5] := ⟨⟨v4, rfl, t6.mono B5.t⟩, ⟨w5, rfl, u5⟩, trivial⟩
            have stay : sv1 (lvOf L) t z = none → Bar [l] H4 H5 ∧ LstD H5 l ((R ++ (lvOf L t none :: (vs.take (j + 1)).filterMap (sv1 (lvOf L) t))).map vlD) ∧ ∃ x5 : Option V, [some (V.ref lr), some (.ref tl), some (.ref vl), some (.ref l), some v4, some w5] = [some (.ref lr), some (.ref tl), some (.ref vl), some (.ref l), some v4, x5] := fun e =>
              ⟨B5, by rw [tk2, e]; simpa using hl5, _, rfl⟩
            refine ⟨_, topN t, _, S5, ixC (x := dVar 4) rfl (topD0 t), rfl, ?_⟩
            rw [sq_place]
            cases hp : t.isPlace with
            | false =>
              refine iteF' rfl (iteF' rfl ?_)
              refine stay ?_
              simp [sv1, hp]
            | true =>
              refine iteT' rfl ?_
              refine ⟨_, t.snd, z.1, S5, ixC (x := dVar 4) rfl (topD1 t), rfl, ?_⟩
              by_cases hz : t.snd = z.1
              · refine iteT' (decide_eq_true hz) ?_
                have hl6 : LstD H5 lr (L.map recD) := (hl1.bar B3 (by simp [n1])).bar B5 (by simp [n1])
                obtain ⟨ws, g1, g2⟩ := id hl5
                have hwl := g2.length
                rw [List.length_map, List.length_append, List.length_cons] at hwl
                refine ⟨_, rfl, .inl ⟨rfl, _, .inl (.inl g1)⟩, _, rfl, _, rfl, _, rfl, lr, L, t, v4, w5, some z, rfl, hl6, hA, t6.mono B5.t, u5, fun v6 H6 s6 t7 => ⟨l, ws, v6, rfl, rfl, s6 _ _ g1, by rw [sizeLine_eq]; omega, ?_⟩⟩
                have bm : Bar [l] H6 (upd H6 l (.lst (ws ++ [v6]))) := Bar.lst (s6 _ _ g1)
                have hs : sv1 (lvOf L) t z = some (lvOf L t (some z.2)) := by simp [sv1, hp, hz]
                refine ⟨B5.trans ((s6.bar _).trans bm), ⟨_, upd_same, ?_⟩, _, rfl⟩
                rw [tk2, hs, show R ++ (lvOf L t none :: ((vs.take j).filterMap (sv1 (lvOf L) t) ++ (some (lvOf L t (some z.2))).toList)) = (R ++ (lvOf L t none :: (vs.take j).filterMap (sv1 (lvOf L) t))) ++ [lvOf L t (some z.2)] by simp, List.map_append]
                exact ((g2.mono s6.t).mono bm.t).append (TpAll.one (t7.mono bm.t))
              · refine iteF' (decide_eq_false hz) ?_
                refine stay ?_
                simp [sv1, hz]
        · rintro σ' H5 ⟨B5, hl5, y5, rfl⟩
          rw [List.length_map, List.take_length] at hl5
          refine ⟨B3.trans B5, ?_, _, _, rfl⟩
          rw [tk]
          exact hl5
    · rintro σ' H2 ⟨B2, hl2, x4, x5, rfl⟩
      rw [List.length_map, List.take_length] at hl2
      exact ⟨_, rfl, fin H2 B2 hl2⟩
theorem scLSeen : FnScope NLS ["_law_records_here", "_law_topics_here", "_law_views_here"] (defScope sLSeen) := ⟨rfl, rfl, rfl, by decide +kernel, rfl, by decide +kernel, by decide +kernel⟩
theorem ok_lseen {f fV : Addr} {fd fdV : FuncData} (F : Fun K "_law_seen" "_law_seen" sLSeen f fd)
    (GV : FnOk P w K mg base CX0 5 fV fdV ["records", "topic", "snapshot"] spVal) (gV : mg "value_at" = some (.ref fV)) (kV : PySem.W.keepIn K (.ref fV) = true) (bV : Binds K fdV ["records", "topic", "snapshot"] []) :
    FnOk P w K mg base CX0 6 f fd ["_law_records_here", "_law_topics_here", "_law_views_here"] (spRowsOf valAt) := by
  refine F.ok scLSeen (fun vs H Q E h => ?_) (fun cdv A outer s H vs Q E hr h => ?_)
  · obtain ⟨lr, tl, vl, L, ts, vs, rfl, _⟩ := h
    rfl
  · obtain ⟨lr, tl, vl, L, ts, vs, rfl, hl, hA, hn, ht, hv, nt, nv, hex, k⟩ := h
    have nd := scLSeen.nd
    refine ⟨_, pss_cons (ps_set (i := 3) nd rfl (.inl rfl) (pe_lst pa_nil))
      (pss_cons (ps_for PassesOwn.never rfl (pi_list (pv 1)) (pg_name (i := 4) nd rfl (.inl rfl))
        (pss_cons (ps_expr (pe_bm PySem.F.plainAttrs_list PySem.F.slot_list_append PySem.F.type_list_append mt_append (pv 3) (pa_cons (pe_call GV hr (by rfl) gV kV bV .nil pass0 (pa_cons (pv 0) (pa_cons (pv 4) (pa_cons pe_non pa_nil)))) pa_nil)))
        (pss_one (ps_for PassesOwn.never rfl (pi_list (pv 2)) (pg_name (i := 5) nd rfl (.inl rfl))
          (pss_one (ps_if (pw_and (pt_seq (pr_ix (pr_var 4)) pr_str) (pw_and1 (pt_icmp (p := fun i j => decide (i = j)) op_eqI (nomark _) (pr_ix (pr_var 4)) (pr_ix (pr_var 5))))).pt
            (pss_one (ps_expr (pe_bm PySem.F.plainAttrs_list PySem.F.slot_list_append PySem.F.type_list_append mt_append (pv 3) (pa_cons (pe_call GV hr (by rfl) gV kV bV .nil pass0 (pa_cons (pv 0) (pa_cons (pv 4) (pa_cons (pv 5) pa_nil)))) pa_nil)))) pss_nil))))))
      (pss_one (ps_ret (pv 3)))), ?_⟩
    refine ⟨Nat.zero_le _, fun l hl0 => ?_⟩
    have s1 := same_upd (o := .lst []) hl0
    have nl : ∀ {a : Addr} {ds : List PyData}, LstD H a ds → a ≠ l := fun ⟨_, h1, _⟩ e => by
      rw [e, hl0] at h1
      cases h1
    have n1 := nl hl
    have n2 := nl ht
    have n3 := nl hv
    have hl1 := hl.mono s1
    have ht1 := ht.mono s1
    have hv1 := hv.mono s1
    have h0 : LstD (upd H l (.lst [])) l (([] : List Vl).map vlD) := ⟨[], upd_same, TpAll.nil⟩
    have fin : ∀ H', Bar [l] (upd H l (.lst [])) H' → LstD H' l ((seenV (valAt L) ts vs).map vlD) → Q (.ref l) H' := fun H' B h => k l H' (B.same s1 fun x hx => by rw [List.mem_singleton.mp hx]; exact hl0) hl0 h
    generalize upd H l (.lst []) = H1 at hl1 ht1 hv1 h0 fin
    refine ⟨_, rfl, tl, rfl, ?_⟩
    refine for_lstD ht1 (fun i σ' H' => Bar [l] H1 H' ∧ LstD H' l ((seenV (valAt L) (ts.take i) vs).map vlD) ∧ ∃ x4 x5 : Option V, σ' = [some (.ref lr), some (.ref tl), some (.ref vl), some (.ref l), x4, x5])
      ⟨Bar.refl _ _, h0, none, none, rfl⟩ (fun i σ' H' ⟨B, _⟩ => ⟨fun o e => B.keep _ _ e (by simp [n2]), B.t⟩) ?_ ?_
    · rintro i d v4 σ' H2 hd t4 ⟨B2, hl2, x4, x5, rfl⟩
      rw [List.getElem?_map] at hd
      cases hg : ts[i]? with
      | none => rw [hg] at hd; cases hd
      | some t =>
        rw [hg] at hd
        cases hd
        have hi := (List.getElem?_eq_some_iff.mp hg).1
        have tk : seenV (valAt L) (ts.take (i + 1)) vs = seenV (valAt L) (ts.take i) vs ++ seen1 (valAt L) vs t := by
          rw [List.take_add_one, hg, seenV, List.flatMap_append]
          simp [seenV]
        have hb : (seenV (valAt L) (ts.take i) vs).length ≤ 60 * 61 := by
          have h1 := seenV_len (valAt L) vs (ts.take i)
          have h2 : (ts.take i).length ≤ 60 := by rw [List.length_take]; omega
          exact Nat.le_trans h1 (Nat.mul_le_mul h2 (by omega))
        generalize seenV (valAt L) (ts.take i) vs = R at hl2 tk hb
        have hlr : LstD H2 lr (L.map recD) := hl1.bar B2 (by simp [n1])
        obtain ⟨us, h1, h2⟩ := id hl2
        have hul := h2.length
        rw [List.length_map] at hul
        refine ⟨_, rfl, .inl ⟨rfl, _, .inl (.inl h1)⟩, _, rfl, _, rfl, lr, L, t, v4, .non, none, rfl, hlr, hA, hn, t4, Tp.non, (fun z q => by cases q), fun v5 H3 s3 t5 => ⟨l, us, v5, rfl, rfl, s3 _ _ h1, by rw [sizeLine_eq]; omega, ?_⟩⟩
        have bl : Bar [l] H3 (upd H3 l (.lst (us ++ [v5]))) := Bar.lst (s3 _ _ h1)
        have h3 : LstD (upd H3 l (.lst (us ++ [v5]))) l ((R ++ [valAt L t none]).map vlD) := ⟨_, upd_same, by
          rw [List.map_append]
          exact ((h2.mono s3.t).mono bl.t).append (TpAll.one (t5.mono bl.t))⟩
        have B3 := B2.trans ((s3.bar _).trans bl)
        have t6 : Tp (upd H3 l (.lst (us ++ [v5]))) (topD t) v4 := t4.mono (s3.t.trans bl.t)
        generalize upd H3 l (.lst (us ++ [v5])) = H4 at h3 B3 t6
        have hv4 : LstD H4 vl (vs.map snapD) := hv1.bar B3 (by simp [n3])
        refine ⟨_, rfl, vl, rfl, ?_⟩
        refine for_lstD hv4 (fun j σ' H' => Bar [l] H4 H' ∧ LstD H' l ((R ++ (valAt L t none :: (vs.take j).filterMap (sv1 (valAt L) t))).map vlD) ∧ ∃ x5 : Option V, σ' = [some (.ref lr), some (.ref tl), some (.ref vl), some (.ref l), some v4, x5])
          ⟨Bar.refl _ _, h3, x5, rfl⟩ (fun i σ' H' ⟨B, _⟩ => ⟨fun o e => B.keep _ _ e (by simp [n3]), B.t⟩) ?_ ?_
        · rintro j d w5 σ' H5 hd u5 ⟨B5, hl5, y5, rfl⟩
          rw [List.getElem?_map] at hd
          cases hh : vs[j]? with
          | none => rw [hh] at hd; cases hd
          | some z =>
            rw [hh] at hd
            cases hd
            have hj := (List.getElem?_eq_some_iff.mp hh).1
            have tk2 : (vs.take (j + 1)).filterMap (sv1 (valAt L) t) = (vs.take j).filterMap (sv1 (valAt L) t) ++ (sv1 (valAt L) t z).toList := by
              rw [List.take_add_one, hh, List.filterMap_append]
              have e1 : List.filterMap (sv1 (valAt L) t) (some z).toList = (sv1 (valAt L) t z).toList := by
                show List.filterMap (sv1 (valAt L) t) [z] = _
                rw [List.filterMap_cons]
                cases sv1 (valAt L) t z <;> rfl
              rw [e1]
            have hb2 : ((vs.take j).filterMap (sv1 (valAt L) t)).length ≤ 60 := by
              have h1 := List.length_filterMap_le (sv1 (valAt L) t) (vs.take j)
              rw [List.length_take] at h1
              omega
            have S5 : SlD H5 [none, none, none, none, some (topD t), some (snapD z)] [some (.ref lr), some (.ref tl), some (.ref vl), some (.ref l), some v4, some w5] := ⟨⟨v4, rfl, t6.mono B5.t⟩, ⟨w5, rfl, u5⟩, trivial⟩
            have stay : sv1 (valAt L) t z = none → Bar [l] H4 H5 ∧ LstD H5 l ((R ++ (valAt L t none :: (vs.take (j + 1)).filterMap (sv1 (valAt L) t))).map vlD) ∧ ∃ x5 : Option V, [some (V.ref lr), some (.ref tl), some (.ref vl), some (.ref l), some v4, some w5] = [some (.ref lr), some (.ref tl), some (.ref vl), some (.ref l), some v4, x5] := fun e =>
              ⟨B5, by rw [tk2, e]; simpa using hl5, _, rfl⟩
            refine ⟨_, topN t, _, S5, ixC (x := dVar 4) rfl (topD0 t), rfl, ?_⟩
            rw [sq_place]
            cases hp : t.isPlace with
            | false =>
              refine iteF' rfl (iteF' rfl ?_)
              refine stay ?_
              simp [sv1, hp]
            | true =>
              refine iteT' rfl ?_
              refine ⟨_, t.snd, z.1, S5, ixC (x := dVar 4) rfl (topD1 t), rfl, ?_⟩
              by_cases hz : t.snd = z.1
              · refine iteT' (decide_eq_true hz) ?_
                have hl6 : LstD H5 lr (L.map recD) := (hl1.bar B3 (by simp [n1])).bar B5 (by simp [n1])
                obtain ⟨ws, g1, g2⟩ := id hl5
                have hwl := g2.length
                rw [List.length_map, List.length_append, List.length_cons] at hwl
                refine ⟨_, rfl, .inl ⟨rfl, _, .inl (.inl g1)⟩, _, rfl, _, rfl, _, rfl, lr, L, t, v4, w5, some z, rfl, hl6, hA, hn, t6.mono B5.t, u5, (fun z q => by cases q; exact hex _ (List.mem_of_getElem? hh)), fun v6 H6 s6 t7 => ⟨l, ws, v6, rfl, rfl, s6 _ _ g1, by rw [sizeLine_eq]; omega, ?_⟩⟩
                have bm : Bar [l] H6 (upd H6 l (.lst (ws ++ [v6]))) := Bar.lst (s6 _ _ g1)
                have hs : sv1 (valAt L) t z = some (valAt L t (some z.2)) := by simp [sv1, hp, hz]
                refine ⟨B5.trans ((s6.bar _).trans bm), ⟨_, upd_same, ?_⟩, _, rfl⟩
                rw [tk2, hs, show R ++ (valAt L t none :: ((vs.take j).filterMap (sv1 (valAt L) t) ++ (some (valAt L t (some z.2))).toList)) = (R ++ (valAt L t none :: (vs.take j).filterMap (sv1 (valAt L) t))) ++ [valAt L t (some z.2)] by simp, List.map_append]
                exact ((g2.mono s6.t).mono bm.t).append (TpAll.one (t7.mono bm.t))
              · refine iteF' (decide_eq_false hz) ?_
                refine stay ?_
                simp [sv1, hz]
        · rintro σ' H5 ⟨B5, hl5, y5, rfl⟩
          rw [List.length_map, List.take_length] at hl5
          refine ⟨B3.trans B5, ?_, _, _, rfl⟩
          rw [tk]
          exact hl5
    · rintro σ' H2 ⟨B2, hl2, x4, x5, rfl⟩
      rw [List.length_map, List.take_length] at hl2
      exact ⟨_, rfl, fin H2 B2 hl2⟩
end
end K13
/-! ## K13C -/
/-! The law's look at snapshots_of. -/
namespace K13
open PySem L2
abbrev sLSn : Stmt := top 26
def inSp (n : Int) (vs : List (Int × Int)) : List Int := (vs.filter fun z => decide (z.1 = n)).map (·.2)
theorem mem_inSp {n k : Int} {vs : List (Int × Int)} : k ∈ inSp n vs ↔ (n, k) ∈ vs := by
  unfold inSp
  rw [List.mem_map]
  constructor
  · rintro ⟨z, hz, rfl⟩
    obtain ⟨h1, h2⟩ := List.mem_filter.mp hz
    rw [← of_decide_eq_true h2]
    exact h1
  · intro h
    exact ⟨_, List.mem_filter.mpr ⟨h, decide_eq_true rfl⟩, rfl⟩
theorem nodup_inSp {n : Int} : ∀ {vs : List (Int × Int)}, vs.Nodup → (inSp n vs).Nodup
  | [], _ => List.nodup_nil
  | z :: vs, h => by
    rw [List.nodup_cons] at h
    have ih := nodup_inSp (n := n) h.2
    by_cases e : z.1 = n
    · have e1 : inSp n (z :: vs) = z.2 :: inSp n vs := by unfold inSp; rw [List.filter_cons, if_pos (decide_eq_true e)]; rfl
      rw [e1]
      refine List.nodup_cons.mpr ⟨fun hm => h.1 ?_, ih⟩
      have := mem_inSp.mp hm
      rw [← e] at this
      exact this
    · have e1 : inSp n (z :: vs) = inSp n vs := by unfold inSp; rw [List.filter_cons, if_neg (by rw [decide_eq_false e]; exact Bool.false_ne_true)]
      rw [e1]
      exact ih
def spLSn : Sp := fun us H Q _ => ∃ (lr vl : Addr) (L : List Rec) (vs : List (Int × Int)), us = [.ref lr, .ref vl] ∧ LstD H lr (L.map recD) ∧ Asc L ∧ L.length ≤ 60 ∧ LstD H vl (vs.map snapD) ∧ vs.Nodup ∧ vs.length ≤ 60 ∧
  (∀ z, z ∈ vs ↔ ex L z.1 z.2) ∧ ∀ H', L2.Same H H' → Q (.bl true) H'
abbrev NLN : List Str := ["_law_records_here", "_law_views_here", "_law_space", "_law_view"]
section
variable {P : Program} {w : World} {K : PySem.W.Frag} {mg : Str → Option Value} {base : Heap}
theorem scLSn : FnScope NLN ["_law_records_here", "_law_views_here"] (defScope sLSn) := ⟨rfl, rfl, rfl, by decide +kernel, rfl, by decide +kernel, by decide +kernel⟩
theorem ok_lsn {f fS : Addr} {fd fdS : FuncData} (F : Fun K "_law_snapshots" "_law_snapshots" sLSn f fd) (hso : mg "sorted" = none) (hra : mg "range" = none)
    (GS : FnOk P w K mg base CX0 5 fS fdS ["records", "namespace"] spSnaps) (gS : mg "snapshots_of" = some (.ref fS)) (kS : PySem.W.keepIn K (.ref fS) = true) (bS : Binds K fdS ["records", "namespace"] []) :
    FnOk P w K mg base CX0 6 f fd ["_law_records_here", "_law_views_here"] spLSn := by
  refine F.ok scLSn (fun vs H Q E h => ?_) (fun cdv A outer s H vs Q E hr h => ?_)
  · obtain ⟨lr, vl, L, vs, rfl, _⟩ := h
    rfl
  · obtain ⟨lr, vl, L, vs, rfl, hl, hA, hn, hv, nd2, nv, hex, k⟩ := h
    have nd := scLSn.nd
    have hu := hr.units
    refine ⟨_, pss_cons (ps_for PassesOwn.never rfl (pi_range2 (by rfl) hra (pa_cons pe_int (pa_cons pe_int pa_nil))) (pg_name (i := 2) nd rfl (.inr rfl))
        (pss_one (ps_if (pt_cmpR (op_neD hu) (pe_call GS hr (by rfl) gS kS bS .nil pass0 (pa_cons (pv 0) (pa_cons (pv 2) pa_nil)))
          (pe_callB cr_sortedI (by rfl) hso (by decide +kernel) (pa_cons (pe_lc (own := [("_law_view", 3)]) (g := gName 3) rfl nd (pi_list (pv 1)) (blkOk_by (N := NLN) (sc := defScope sLSn) (by decide +kernel))
            (fun _ _ _ _ _ => pg_name (i := 3) nd rfl (Or.inl rfl)) (fun _ _ _ _ _ => pts_one (pt_icmp (p := fun i j => decide (i = j)) op_eqI (nomark _) (pr_ix (pr_var 3)) (pr_var 2))) (fun _ _ _ _ _ => pr_ix (pr_var 3))) pa_nil)) (nomark _))
          (pss_one (ps_ret pe_bl)) pss_nil)))
      (pss_one (ps_ret pe_bl)), ?_⟩
    refine ⟨1, 9, rfl, ⟨by decide, by decide, by decide, by decide⟩, ?_⟩
    refine for_range (lo := 1) (n := ((9 : Int) - 1).toNat) (fun i σ' H' => L2.Same H H' ∧ ∃ x2 x3 : Option V, σ' = [some (.ref lr), some (.ref vl), x2, x3])
      ⟨L2.Same.refl _, none, none, rfl⟩ ?_ ?_
    · rintro i σ' H1 hi ⟨s1, x2, x3, rfl⟩
      refine ⟨_, rfl, _, rfl, lr, L, _, rfl, hl.mono s1, hA, hn, fun l2 ks H2 s2 hl2 hs2 hd2 hk2 => ?_⟩
      have hv2 := hv.mono (s1.trans s2)
      generalize (1 : Int) + (i : Int) = n at hk2
      refine ⟨_, rfl, vl, rfl, hv2.sq, fun D hD => ?_⟩
      refine lc_lstD hv2 hD (fun j H' => ∃ acc, H' = upd H2 D (.lst acc) ∧ acc = (inSp n (vs.take j)).map V.int ∧ acc.length ≤ j) ⟨[], rfl, rfl, Nat.le_refl _⟩
        (fun i H' ⟨acc, e, _⟩ => by rw [e]; exact same_upd hD) ?_ ?_
      · rintro j d v H' hd t0 t1 ⟨acc, rfl, hacc, hal⟩
        rw [List.getElem?_map] at hd
        cases hz : vs[j]? with
        | none => rw [hz] at hd; cases hd
        | some z =>
          rw [hz] at hd
          cases hd
          have hj := (List.getElem?_eq_some_iff.mp hz).1
          have tk : inSp n (vs.take (j + 1)) = inSp n (vs.take j) ++ (if z.1 = n then [z.2] else []) := by
            unfold inSp
            rw [List.take_add_one, hz, List.filter_append, List.map_append]
            congr 1
            show List.map (·.2) (List.filter (fun z => decide (z.1 = n)) [z]) = _
            by_cases e : z.1 = n <;> simp [e]
          have S2 : SlD (upd H2 D (.lst acc)) [none, none, some (.int n), some (snapD z)] [some (.ref lr), some (.ref vl), some (.int n), some v] := ⟨⟨_, rfl, Tp.int⟩, ⟨v, rfl, t1⟩, trivial⟩
          refine ⟨rfl, _, z.1, n, S2, rfl, rfl, ?_⟩
          by_cases e : z.1 = n
          · refine iteT' (decide_eq_true e) ?_
            refine ⟨_, _, S2, rfl, fun v3 t3 => ?_⟩
            rw [t3.int_of]
            refine ⟨acc, upd_same, by rw [sizeLine_eq]; omega, acc ++ [.int z.2], by rw [upd_upd], ?_, by rw [List.length_append]; exact Nat.succ_le_succ hal⟩
            rw [tk, if_pos e, hacc, List.map_append]
            rfl
          · refine iteF' (decide_eq_false e) ?_
            refine ⟨acc, rfl, ?_, by omega⟩
            rw [tk, if_neg e, List.append_nil]
            exact hacc
      · rintro H' ⟨acc, rfl, hacc, _⟩
        rw [List.length_map, List.take_length] at hacc
        have sD := same_upd (o := .lst acc) hD
        refine ⟨D, inSp n vs, rfl, SqL.of (by rw [upd_same, hacc]), fun ns' p' hp1 hp2 hp3 => ?_⟩
        have sP := same_upd (o := .lst (ns'.map V.int)) hp3
        have e : ks = ns' := PySem.W.ksm_same (((List.perm_ext_iff_of_nodup hd2 (nodup_inSp nd2)).mpr fun k => by rw [hk2, mem_inSp, hex]).trans hp1.symm) hs2 hp2
        have h3 := hl2.mono (sD.trans sP)
        have h4 : LstD (upd (upd H2 D (.lst acc)) p' (.lst (ns'.map V.int))) p' (ks.map PyData.int) := ⟨_, upd_same, by rw [e]; exact tp_ints.mpr rfl⟩
        obtain ⟨us, h5, h6⟩ := h3
        obtain ⟨ws, h7, h8⟩ := h4
        refine ⟨.list (ks.map PyData.int), .list (ks.map PyData.int), .lst (SqL.of h5) h6.dp, .lst (SqL.of h7) h8.dp, shaped_ints ks, shaped_ints ks, _, rfl, ?_⟩
        rw [eqv_shaped (shaped_ints ks)]
        refine iteF' rfl ?_
        exact ⟨(s1.trans s2).trans (sD.trans sP), _, _, rfl⟩
    · rintro σ' H1 ⟨s1, x2, x3, rfl⟩
      exact k H1 s1
end
end K13
/-! ## K13L -/
/-! The law. -/
namespace K13
open PySem L2
abbrev sLaw : Stmt := top 27
theorem LstD.dp {K : PySem.W.Frag} {H : Hp} {l : Addr} {ds : List PyData} (h : LstD H l ds) : Dp K H (.ref l) (.list ds) := by
  obtain ⟨vs, h1, h2⟩ := h
  exact .lst (SqL.of h1) h2.dp
theorem sub_filter {ks : List Rec} : ∀ {M : List Rec}, ks.Sublist M → M.Nodup → M.filter (fun r => decide (r ∈ ks)) = ks := by
  intro M h
  induction h with
  | slnil => intro _; rfl
  | cons a h ih =>
    intro nd
    rw [List.nodup_cons] at nd
    rw [List.filter_cons, if_neg (by
      rw [decide_eq_false fun z => nd.1 (h.subset z)]
      exact Bool.false_ne_true)]
    exact ih nd.2
  | @cons_cons l1 l2 a h ih =>
    intro nd
    rw [List.nodup_cons] at nd
    rw [List.filter_cons, if_pos (decide_eq_true List.mem_cons_self)]
    have e : l2.filter (fun r => decide (r ∈ a :: l1)) = l2.filter (fun r => decide (r ∈ l1)) := List.filter_congr fun r hr => by
      have ne : r ≠ a := fun z => nd.1 (by rw [← z]; exact hr)
      simp [ne]
    rw [e, ih nd.2]
theorem Asc.nodup {L : List Rec} (h : Asc L) : L.Nodup := List.Pairwise.imp (fun {a b} z e => by rw [e] at z; exact Int.lt_irrefl _ z) h
theorem seenV_congr {g g' : Topic → Option Int → Vl} {ts : List Topic} {vs : List (Int × Int)} (h1 : ∀ t ∈ ts, g t none = g' t none) (h2 : ∀ t ∈ ts, ∀ z ∈ vs, t.isPlace = true → t.snd = z.1 → g t (some z.2) = g' t (some z.2)) : seenV g ts vs = seenV g' ts vs := by
  induction ts with
  | nil => rfl
  | cons t ts ih =>
    show seen1 g vs t ++ seenV g ts vs = seen1 g' vs t ++ seenV g' ts vs
    rw [ih (fun t ht => h1 t (List.mem_cons_of_mem _ ht)) fun t ht => h2 t (List.mem_cons_of_mem _ ht)]
    congr 1
    unfold seen1
    rw [h1 t List.mem_cons_self]
    congr 1
    have k : ∀ z ∈ vs, sv1 g t z = sv1 g' t z := fun z hz => by
      unfold sv1
      split
      · rename_i q
        rw [Bool.and_eq_true] at q
        rw [h2 t List.mem_cons_self z hz q.1 (of_decide_eq_true q.2)]
      · rfl
    clear ih h1 h2
    induction vs with
    | nil => rfl
    | cons z vs ih =>
      rw [List.filterMap_cons, List.filterMap_cons, k z List.mem_cons_self, ih fun z hz => k z (List.mem_cons_of_mem _ hz)]
theorem seen_due {L M : List Rec} (hA : Asc L) (S : Alike L M) : seenV (valAt M) (topics L) (views L) = seenV (lvOf L) (topics L) (views L) := by
  refine seenV_congr (fun t ht => ?_) fun t ht z hz hp he => ?_
  · rw [S.now t (topics_asked ht)]
    exact (lawVal_eq (topics_asked ht) hA).symm
  · have hx := (mem_views hA).mp hz
    cases t <;> cases hp
    rename_i n p
    cases he
    rw [S.then_ _ p _ hx]
    exact (lawVal_eq (t := .place z.1 p) rfl hA).symm
/-- what stands between two turns of the law -/
structure LawS (H : Hp) (tp c tl vl dl lf : Addr) (cells : List Int) (L M : List Rec) : Prop where
  ta : TapeAt H tp c cells
  ht : LstD H tl ((topics L).map topD)
  hv : LstD H vl ((views L).map snapD)
  hd : LstD H dl ((seenV (lvOf L) (topics L) (views L)).map vlD)
  hf : LstD H lf (M.map recD)
  al : Alike L M
  asc : Asc M
  len : M.length ≤ 30
  n1 : tl ≠ tp
  n2 : vl ≠ tp
  n3 : dl ≠ tp
  n4 : lf ≠ tp
theorem LawS.same {H H' : Hp} {tp c tl vl dl lf : Addr} {cells : List Int} {L M : List Rec} (S : LawS H tp c tl vl dl lf cells L M) (s : L2.Same H H') : LawS H' tp c tl vl dl lf cells L M :=
  ⟨S.ta.same s, S.ht.mono s, S.hv.mono s, S.hd.mono s, S.hf.mono s, S.al, S.asc, S.len, S.n1, S.n2, S.n3, S.n4⟩
theorem LstD.ne {H : Hp} {l a : Addr} {ds : List PyData} (h : LstD H l ds) (e : H a = none) : l ≠ a := fun z => by
  obtain ⟨_, h1, _⟩ := h
  rw [z, e] at h1
  cases h1
def spLaw (K : PySem.W.Frag) : Sp := fun vs H Q _ => ∃ (a : Addr) (ns : List Int), vs = [.ref a] ∧ SqL K H a (ns.map V.int) ∧ ∀ H', Q (.bl true) H'
abbrev NLL : List Str := ["_law_script", "_law_tape", "_law_records_here", "_law_topics_here", "_law_views_here", "_law_due_here", "_law_left", "_law_turn", "_law_passed", "_law_live", "_law_record", "_law_keep"]
abbrev P3 : List Str := ["_law_records_here", "_law_topics_here", "_law_views_here"]
section
variable {P : Program} {w : World} {K : PySem.W.Frag} {mg : Str → Option Value} {base : Heap}
theorem scLaw : FnScope NLL ["_law_script"] (defScope sLaw) := ⟨rfl, rfl, rfl, by decide +kernel, rfl, by decide +kernel, by decide +kernel⟩
theorem ok_law {f fN fR fT fW fD fE fS fL : Addr} {fd fdN fdR fdT fdW fdD fdE fdS fdL : FuncData} (F : Fun K "law" "law" sLaw f fd) (T : Bis mg)
    (FN : Fun K "_law_next" "_law_next" sNext fN fdN) (gN : mg "_law_next" = some (.ref fN)) (bN : Binds K fdN ["_law_tape", "_law_many"] [])
    (GR : FnOk P w K mg base CX0 3 fR fdR ["_law_tape", "_law_most"] spRecs) (gR : mg "_law_records" = some (.ref fR)) (kR : PySem.W.keepIn K (.ref fR) = true) (bR : Binds K fdR ["_law_tape", "_law_most"] [])
    (GT : FnOk P w K mg base CX0 2 fT fdT ["_law_records_here"] spTops) (gT : mg "_law_topics" = some (.ref fT)) (kT : PySem.W.keepIn K (.ref fT) = true) (bT : Binds K fdT ["_law_records_here"] [])
    (GW : FnOk P w K mg base CX0 3 fW fdW ["_law_records_here"] spVws) (gW : mg "_law_views" = some (.ref fW)) (kW : PySem.W.keepIn K (.ref fW) = true) (bW : Binds K fdW ["_law_records_here"] [])
    (GD : FnOk P w K mg base CX0 3 fD fdD P3 (spRowsOf lvOf)) (gD : mg "_law_due" = some (.ref fD)) (kD : PySem.W.keepIn K (.ref fD) = true) (bD : Binds K fdD P3 [])
    (GE : FnOk P w K mg base CX0 6 fE fdE P3 (spRowsOf valAt)) (gE : mg "_law_seen" = some (.ref fE)) (kE : PySem.W.keepIn K (.ref fE) = true) (bE : Binds K fdE P3 [])
    (GS : FnOk P w K mg base CX0 6 fS fdS ["_law_records_here", "_law_views_here"] spLSn) (gS : mg "_law_snapshots" = some (.ref fS)) (kS : PySem.W.keepIn K (.ref fS) = true) (bS : Binds K fdS ["_law_records_here", "_law_views_here"] [])
    (GL : FnOk P w K mg base CX0 5 fL fdL ["records"] spLiveR) (gL : mg "live_records" = some (.ref fL)) (kL : PySem.W.keepIn K (.ref fL) = true) (bL : Binds K fdL ["records"] []) :
    FnOk P w K mg base CX0 7 f fd ["_law_script"] (spLaw K) := by
  have GN : FnOk P w K mg base CX0 1 fN fdN ["_law_tape", "_law_many"] spNext := ok_next FN T
  refine F.ok scLaw (fun vs H Q E h => ?_) (fun cdv A outer s H vs Q E hr6 h => ?_)
  · obtain ⟨a, ns, rfl, _⟩ := h
    rfl
  · obtain ⟨a, ns, rfl, hS, k⟩ := h
    have nd := scLaw.nd
    have hr := hr6.mono (show 1 ≤ 6 by decide)
    have hr2 := hr6.mono (show 2 ≤ 6 by decide)
    have hr3 := hr6.mono (show 3 ≤ 6 by decide)
    have hr5 := hr6.mono (show 5 ≤ 6 by decide)
    have hu := hr6.units
    have hu65 : (A.deeper (PyProof.Rows.envOfC "law" (defScope sLaw) s.heap.objs.size f cdv)).units + 65 < cLine := by have := hr6.un; omega
    refine ⟨_, pss_cons (ps_set (i := 1) nd rfl (.inl rfl) (pe_lst (pa_cons (pe_callTy call_list_of (by rfl) T.list (by decide +kernel) (pa_cons (pv 0) pa_nil)) (pa_cons pe_int (pa_cons pe_int (pa_cons pe_int pa_nil))))))
      (pss_cons (ps_set (i := 2) nd rfl (.inl rfl) (pe_call GR hr3 (by rfl) gR kR bR .nil pass0 (pa_cons (pv 1) (pa_cons (pe_ix ix_tup (pe_tup (pa_cons pe_int (pa_cons pe_int (pa_cons pe_int pa_nil)))) (pe_call GN hr (by rfl) gN FN.kp bN .nil pass0 (pa_cons (pv 1) (pa_cons pe_int pa_nil))) (fun _ _ => rfl)) pa_nil))))
      (pss_cons (ps_set (i := 3) nd rfl (.inl rfl) (pe_call GT hr2 (by rfl) gT kT bT .nil pass0 (pa_cons (pv 2) pa_nil)))
      (pss_cons (ps_set (i := 4) nd rfl (.inl rfl) (pe_call GW hr3 (by rfl) gW kW bW .nil pass0 (pa_cons (pv 2) pa_nil)))
      (pss_cons (ps_set (i := 5) nd rfl (.inl rfl) (pe_call GD hr3 (by rfl) gD kD bD .nil pass0 (pa_cons (pv 2) (pa_cons (pv 3) (pa_cons (pv 4) pa_nil)))))
      (pss_cons (ps_set (i := 6) nd rfl (.inl rfl) (pe_callTy call_list_of (by rfl) T.list (by decide +kernel) (pa_cons (pv 2) pa_nil)))
      (pss_cons (ps_for PassesOwn.never rfl (pi_range1 (by rfl) T.range (pa_cons pe_int pa_nil)) (pg_name (i := 7) nd rfl (.inl rfl))
        (pss_cons (ps_set (i := 8) nd rfl (.inl rfl) (pe_callTy call_list_of (by rfl) T.list (by decide +kernel) (pa_cons (pv 6) pa_nil)))
        (pss_cons (ps_if (pw_or (pt_cmpR (op_neD hu) (pe_call GE hr6 (by rfl) gE kE bE .nil pass0 (pa_cons (pv 8) (pa_cons (pv 3) (pa_cons (pv 4) pa_nil)))) (pv 5) (nomark _)) (pw_or1 (pt_cmpR (op_neD hu) (pv 8) (pv 6) (nomark _)))).pt (pss_one (ps_ret pe_bl)) pss_nil)
        (pss_join (ps_if (pw_and (pt_cmpR op_eq (pv 7) pe_int (nomark _)) (pw_and1 (pt_not (pt_val (pe_call GS hr6 (by rfl) gS kS bS .nil pass0 (pa_cons (pv 8) (pa_cons (pv 4) pa_nil))))))).pt (pss_one (ps_ret pe_bl)) pss_nil)
        (pss_cons (ps_set (i := 9) nd rfl (.inr rfl) (pe_call GL hr5 (by rfl) gL kL bL .nil pass0 (pa_cons (pv 8) pa_nil)))
        (pss_cons (ps_if (pw_or (pt_not (pt_val (pe_callB RZ.call_isTy (by rfl) T.isi (by decide +kernel) (pa_cons (pv 9) (pa_cons (pe_bltn (v := .ty "list") (by rfl) T.list (by decide +kernel) rfl) pa_nil)))))
            (pw_or (pt_cmpR (op_neD hu) (pv 8) (pv 6) (nomark _)) (pw_or1 (pt_cmpR (op_neD hu) (pv 9) (pe_lc (own := [("_law_record", 10)]) (g := gName 10) rfl nd (pi_list (pv 6)) (blkOk_by (N := NLL) (sc := defScope sLaw) (by decide +kernel))
              (fun _ _ _ _ _ => pg_name (i := 10) nd rfl (Or.inl rfl)) (fun _ _ _ _ _ => pts_one (pt_cmpR (show OpR _ (compareOp .In) (rInD K) from op_inD hu65) (pv 10) (pv 9) rfl)) (fun _ _ _ _ _ => pv 10)) (nomark _))))).pt (pss_one (ps_ret pe_bl)) pss_nil)
        (pss_cons (ps_set (i := 11) nd rfl (.inl rfl) (pe_lst pa_nil))
        (pss_cons (ps_for PassesOwn.never rfl (pi_list (pv 6)) (pg_name (i := 10) nd rfl (.inl rfl))
          (pss_one (ps_if (pw_or (pt_cmpR (op_inD hu65) (pv 10) (pv 9) rfl) (pw_or1 (pt_cmpR op_eq (pe_call GN hr (by rfl) gN FN.kp bN .nil pass0 (pa_cons (pv 1) (pa_cons pe_int pa_nil))) pe_int (nomark _)))).pt
            (pss_one (ps_expr (pe_bm PySem.F.plainAttrs_list PySem.F.slot_list_append PySem.F.type_list_append mt_append (pv 11) (pa_cons (pv 10) pa_nil)))) pss_nil)))
        (pss_one (ps_set (i := 6) nd rfl (.inl rfl) (pv 11)))))))))))
      (pss_one (ps_ret (pe_and (pe_cmpR (op_eqD hu) (pe_call GE hr6 (by rfl) gE kE bE .nil pass0 (pa_cons (pv 6) (pa_cons (pv 3) (pa_cons (pv 4) pa_nil)))) (pv 5) (nomark _)) (pe_one (pe_call GS hr6 (by rfl) gS kS bS .nil pass0 (pa_cons (pv 6) (pa_cons (pv 4) pa_nil))))))))))))), ?_⟩
    -- the tape
    refine ⟨_, rfl, a, ns.map V.int, rfl, .inl hS, fun c hc => ⟨(by show 4 ≤ sizeLine; decide), fun tp htp => ?_⟩⟩
    have sT := same_upd (o := .lst [.ref c, .int 0, .int 0, .int 5]) htp
    have TA : TapeAt (upd (upd H c (.lst (ns.map V.int))) tp (.lst [.ref c, .int 0, .int 0, .int 5])) tp c ns := ⟨⟨0, 0, 5, upd_same, by decide⟩, sT _ _ upd_same⟩
    generalize upd (upd H c (.lst (ns.map V.int))) tp (.lst [.ref c, .int 0, .int 0, .int 5]) = H1 at TA
    -- the records
    refine ⟨_, rfl, (by show 3 ≤ sizeLine; decide), fun p hp => ?_⟩
    have sp := same_upd (o := .tup [.int 6, .int 12, .int 30]) hp
    refine ⟨_, rfl, tp, c, ns, 3, rfl, TA.same sp, by decide, by decide, fun k3 H3 a0 a1 B3 T3 => ?_⟩
    obtain ⟨m, hm, m0, m1⟩ : ∃ m : Int, atI [V.int 6, .int 12, .int 30] k3 = some (.int m) ∧ 0 < m ∧ m ≤ 30 := by
      rcases (show k3 = 0 ∨ k3 = 1 ∨ k3 = 2 by omega) with e | e | e <;> rw [e]
      · exact ⟨6, rfl, by decide, by decide⟩
      · exact ⟨12, rfl, by decide, by decide⟩
      · exact ⟨30, rfl, by decide, by decide⟩
    refine ⟨p, _, k3, .int m, rfl, rfl, SqT.of (B3.t _ _ upd_same), hm, ?_⟩
    refine ⟨tp, c, ns, m, rfl, T3, m0, m1, fun lr L H4 B4 T4 hlr0 hL hA hlen => ?_⟩
    have tpL : ∃ o, H4 tp = some o := by
      obtain ⟨_, _, _, h, _⟩ := T4.tl
      exact ⟨_, h⟩
    have l60 : L.length ≤ 60 := by omega
    have tlen : (topics L).length ≤ 60 := by have := topics_len L; omega
    have vlen : (views L).length ≤ 60 := by have := views_len L; omega
    -- topics, views, due
    refine ⟨_, rfl, lr, L, rfl, hL, l60, fun tl H5 s5 htl0 htl => ?_⟩
    refine ⟨_, rfl, lr, L, rfl, hL.mono s5, hA, l60, fun vl H6 s6 hvl0 hvl => ?_⟩
    refine ⟨_, rfl, _, rfl, _, rfl, lr, tl, vl, L, topics L, views L, rfl, hL.mono (s5.trans s6), hA, l60, htl.mono s6, hvl, tlen, vlen, (fun z hz => (mem_views hA).mp hz), fun dl H7 s7 hdl0 hdl => ?_⟩
    -- left = list(records)
    obtain ⟨rs, hr1, hr2'⟩ := hL.mono ((s5.trans s6).trans s7)
    refine ⟨_, rfl, lr, rs, rfl, .inl (SqL.of hr1), fun lf hlf => ?_⟩
    have s8 := same_upd (o := .lst rs) hlf
    have s47 := (s5.trans s6).trans s7
    have nt : ∀ {x : Addr} {Hx : Hp}, L2.Same H4 Hx → Hx x = none → x ≠ tp := fun {x Hx} s e z => by
      obtain ⟨o, ho⟩ := tpL
      rw [z, s _ _ ho] at e
      cases e
    have S0 : LawS (upd H7 lf (.lst rs)) tp c tl vl dl lf ns L L :=
      ⟨(T4.same s47).same s8, (htl.mono (s6.trans s7)).mono s8, (hvl.mono s7).mono s8, hdl.mono s8, ⟨rs, upd_same, hr2'.mono s8.t⟩, Alike.refl L, hA, hlen, nt (L2.Same.refl _) htl0, nt s5 hvl0, nt (s5.trans s6) hdl0, nt s47 hlf⟩
    generalize upd H7 lf (.lst rs) = H8 at S0
    refine ⟨3, rfl, by decide, by decide, ?_⟩
    refine for_range (lo := 0) (n := (3 : Int).toNat) (fun i σ' H' => ∃ (lf : Addr) (M : List Rec) (x7 x8 x9 x10 x11 : Option V), LawS H' tp c tl vl dl lf ns L M ∧ σ' = [some (.ref a), some (.ref tp), some (.ref lr), some (.ref tl), some (.ref vl), some (.ref dl), some (.ref lf), x7, x8, x9, x10, x11])
      ⟨lf, L, none, none, none, none, none, S0, rfl⟩ ?_ ?_
    · rintro i σ' H1' hi ⟨lf, M, x7, x8, x9, x10, x11, S, rfl⟩
      have m60 : M.length ≤ 60 := Nat.le_trans S.len (by decide)
      -- passed = list(left)
      obtain ⟨ms, hm1, hm2⟩ := id S.hf
      refine ⟨_, rfl, lf, ms, rfl, .inl (SqL.of hm1), fun pd hpd => ?_⟩
      have sA := same_upd (o := .lst ms) hpd
      have SA := S.same sA
      have hp1 : LstD (upd H1' pd (.lst ms)) pd (M.map recD) := ⟨ms, upd_same, hm2.mono sA.t⟩
      generalize upd H1' pd (.lst ms) = H2 at SA hp1
      have hvx : ∀ z, z ∈ views L ↔ ex M z.1 z.2 := fun z => (mem_views hA).trans (S.al.ex _ _).symm
      refine ⟨_, rfl, _, rfl, _, rfl, pd, tl, vl, M, topics L, views L, rfl, hp1, S.asc, m60, SA.ht, SA.hv, tlen, vlen, (fun z hz => (hvx z).mp hz), fun sl H3 s3 hsl0 hsl => ?_⟩
      rw [seen_due hA S.al] at hsl
      have SB := SA.same s3
      have hp2 := hp1.mono s3
      refine ⟨_, rfl, .list _, .list _, hsl.dp, SB.hd.dp, shaped_vls _, shaped_vls _, _, rfl, ?_⟩
      rw [eqv_shaped (shaped_vls _)]
      refine iteF' rfl ?_
      refine ⟨_, rfl, _, rfl, .list _, .list _, hp2.dp, SB.hf.dp, shaped_recs _, shaped_recs _, _, rfl, ?_⟩
      rw [eqv_shaped (shaped_recs _)]
      refine iteF' rfl ?_
      -- the snapshots, in the first turn
      refine ⟨fun σ' H' => L2.Same H3 H' ∧ σ' = [some (.ref a), some (.ref tp), some (.ref lr), some (.ref tl), some (.ref vl), some (.ref dl), some (.ref lf), some (.int (0 + (i : Int))), some (.ref pd), x9, x10, x11], ?_, ?_⟩
      · refine ⟨_, rfl, rfl, _, rfl, ?_⟩
        refine ite2 (fun _ => ?_) (fun _ => ?_)
        · refine ⟨_, rfl, _, rfl, pd, vl, M, views L, rfl, hp2, S.asc, m60, SB.hv, views_nd L, vlen, hvx, fun H' s' => ⟨_, rfl, ?_⟩⟩
          refine iteF' rfl ?_
          exact ⟨s', rfl⟩
        · refine iteF' rfl ?_
          exact ⟨L2.Same.refl _, rfl⟩
      rintro σ' H4' ⟨s4, rfl⟩
      have SC := SB.same s4
      have hp3 := hp2.mono s4
      -- the live ones
      refine ⟨_, rfl, pd, M, rfl, hp3, S.asc, m60, fun lv q H5' s5' hlv0 hlv KQ => ?_⟩
      have SD := SC.same s5'
      have hp4 := hp3.mono s5'
      obtain ⟨us, hv1, hv2⟩ := id hlv
      refine ⟨_, rfl, .ref lv, "list", rfl, .lst hv1, _, rfl, ?_⟩
      refine iteF' rfl ?_
      refine ⟨_, rfl, _, rfl, .list _, .list _, hp4.dp, SD.hf.dp, shaped_recs _, shaped_recs _, _, rfl, ?_⟩
      rw [eqv_shaped (shaped_recs _)]
      refine iteF' rfl ?_
      have hin : ∀ r ∈ M, decide (r ∈ M.filter q) = q r := fun r hr => by
        rw [Bool.eq_iff_iff, decide_eq_true_eq, List.mem_filter]
        exact ⟨fun z => z.2, fun z => ⟨hr, z⟩⟩
      have anyq : ∀ r ∈ M, (((M.filter q).map recD).any fun z => PyData.eqv z (recD r)) = q r := fun r hr => by
        rw [any_recs fun x hx e => S.asc.inj (List.mem_filter.mp hx).1 hr e]
        exact hin r hr
      refine ⟨_, rfl, _, rfl, lf, rfl, SD.hf.sq, fun D hD => ?_⟩
      refine lc_lstD SD.hf hD (fun j H' => ∃ acc, H' = upd H5' D (.lst acc) ∧ TpAll H5' (((M.take j).filter q).map recD) acc ∧ acc.length ≤ j) ⟨[], rfl, TpAll.nil, Nat.le_refl _⟩
        (fun j H' ⟨acc, e, _⟩ => by rw [e]; exact same_upd hD) ?_ ?_
      · rintro j d v H' hd t0 t1 ⟨acc, rfl, hacc, hal⟩
        rw [List.getElem?_map] at hd
        cases hz : M[j]? with
        | none => rw [hz] at hd; cases hd
        | some r =>
          rw [hz] at hd
          cases hd
          have hj := (List.getElem?_eq_some_iff.mp hz).1
          have hrM : r ∈ M := List.mem_of_getElem? hz
          have tk : (M.take (j + 1)).filter q = (M.take j).filter q ++ (if q r = true then [r] else []) := by
            rw [List.take_add_one, hz, List.filter_append]
            congr 1
            show List.filter q [r] = _
            rw [List.filter_cons]
            rfl
          have sE := same_upd (o := .lst acc) hD
          refine ⟨rfl, _, rfl, _, rfl, recD r, (M.filter q).map recD, t1.dp, (hlv.mono sE).dp, shaped_rec r, shaped_recs _, _, rfl, ?_⟩
          rw [anyq r hrM]
          cases hq : q r with
          | true =>
            refine iteT' rfl ?_
            refine ⟨_, rfl, acc, upd_same, by rw [sizeLine_eq]; omega, acc ++ [v], by rw [upd_upd], ?_, by rw [List.length_append]; exact Nat.succ_le_succ hal⟩
            rw [tk, if_pos hq, List.map_append]
            exact hacc.append (TpAll.one t0)
          | false =>
            refine iteF' rfl ?_
            refine ⟨acc, rfl, ?_, by omega⟩
            rw [tk, if_neg (by rw [hq]; exact Bool.false_ne_true), List.append_nil]
            exact hacc
      rintro H' ⟨acc, rfl, hacc, _⟩
      rw [List.length_map, List.take_length] at hacc
      have sE := same_upd (o := .lst acc) hD
      have SE := SD.same sE
      have hlv2 := hlv.mono sE
      have hco : LstD (upd H5' D (.lst acc)) D ((M.filter q).map recD) := ⟨acc, upd_same, hacc.mono sE.t⟩
      generalize upd H5' D (.lst acc) = H6' at SE hlv2 hco
      refine ⟨.list _, .list _, hlv2.dp, hco.dp, shaped_recs _, shaped_recs _, _, rfl, ?_⟩
      rw [eqv_shaped (shaped_recs _)]
      refine iteF' rfl ?_
      -- keep
      refine ⟨Nat.zero_le _, fun kp hkp => ?_⟩
      have sF := same_upd (o := .lst []) hkp
      have SF := SE.same sF
      have hlv3 := hlv2.mono sF
      have hk0 : LstD (upd H6' kp (.lst [])) kp (([] : List Rec).map recD) := ⟨[], upd_same, TpAll.nil⟩
      have ntk : tp ≠ kp := fun z => by
        obtain ⟨_, _, _, h, _⟩ := SE.ta.tl
        rw [z, hkp] at h
        cases h
      have nck : c ≠ kp := fun z => by
        have h := SE.ta.cl
        rw [z, hkp] at h
        cases h
      have k1 := SE.ht.ne hkp
      have k2 := SE.hv.ne hkp
      have k3' := SE.hd.ne hkp
      have k4 := SE.hf.ne hkp
      have k5 := hlv2.ne hkp
      have nlv : lv ≠ tp := fun z => by
        obtain ⟨_, _, _, h, _⟩ := SC.ta.tl
        rw [z, h] at hlv0
        cases hlv0
      generalize upd H6' kp (.lst []) = H7' at SF hlv3 hk0
      refine ⟨_, rfl, lf, rfl, ?_⟩
      refine for_lstD SF.hf (fun j σ' H' => ∃ (ks : List Rec) (y10 : Option V), Bar [tp, kp] H7' H' ∧ TapeAt H' tp c ns ∧ LstD H' kp (ks.map recD) ∧ ks.Sublist (M.take j) ∧ (∀ r ∈ M.take j, q r = true → r ∈ ks) ∧
          σ' = [some (.ref a), some (.ref tp), some (.ref lr), some (.ref tl), some (.ref vl), some (.ref dl), some (.ref lf), some (.int (0 + (i : Int))), some (.ref pd), some (.ref lv), y10, some (.ref kp)])
        ⟨[], x10, Bar.refl _ _, SF.ta, hk0, List.nil_sublist _, (fun r hr => by cases hr), rfl⟩ (fun j σ' H' ⟨_, _, B, _⟩ => ⟨fun o e => B.keep _ _ e (by simp [S.n4, k4]), B.t⟩) ?_ ?_
      · rintro j d v σ' H' hd t1 ⟨ks, y10, B, TT, hks, hsub, hall, rfl⟩
        rw [List.getElem?_map] at hd
        cases hz : M[j]? with
        | none => rw [hz] at hd; cases hd
        | some r =>
          rw [hz] at hd
          cases hd
          have hj := (List.getElem?_eq_some_iff.mp hz).1
          have hrM : r ∈ M := List.mem_of_getElem? hz
          have tk : M.take (j + 1) = M.take j ++ [r] := by
            rw [List.take_add_one, hz]
            rfl
          have hkl : ks.length ≤ 30 := by
            have := hsub.length_le
            rw [List.length_take] at this
            have := S.len
            omega
          -- the append
          have put : ∀ Hx : Hp, Bar [tp] H' Hx → TapeAt Hx tp c ns → ∃ us, Hx kp = some (.lst us) ∧ us.length < sizeLine ∧ ∃ (ks2 : List Rec) (z10 : Option V), Bar [tp, kp] H7' (upd Hx kp (.lst (us ++ [v]))) ∧ TapeAt (upd Hx kp (.lst (us ++ [v]))) tp c ns ∧ LstD (upd Hx kp (.lst (us ++ [v]))) kp (ks2.map recD) ∧ ks2.Sublist (M.take (j + 1)) ∧ (∀ r ∈ M.take (j + 1), q r = true → r ∈ ks2) ∧
              [some (V.ref a), some (.ref tp), some (.ref lr), some (.ref tl), some (.ref vl), some (.ref dl), some (.ref lf), some (.int (0 + (i : Int))), some (.ref pd), some (.ref lv), some v, some (.ref kp)] = [some (.ref a), some (.ref tp), some (.ref lr), some (.ref tl), some (.ref vl), some (.ref dl), some (.ref lf), some (.int (0 + (i : Int))), some (.ref pd), some (.ref lv), z10, some (.ref kp)] := fun Hx Bx Tx => by
            obtain ⟨us, g1, g2⟩ := hks.bar Bx (by simp [ntk.symm])
            have bk : Bar [kp] Hx (upd Hx kp (.lst (us ++ [v]))) := Bar.lst g1
            have gl := g2.length
            rw [List.length_map] at gl
            refine ⟨us, g1, by rw [sizeLine_eq]; omega, ks ++ [r], _, B.trans ((Bx.mono (by simp)).trans (bk.mono (by simp))), Tx.bar bk (by simp [ntk]) (by simp [nck]), ⟨_, upd_same, ?_⟩, ?_, ?_, rfl⟩
            · rw [List.map_append]
              exact (g2.mono bk.t).append (TpAll.one ((t1.mono Bx.t).mono bk.t))
            · rw [tk]
              exact hsub.append (List.Sublist.refl _)
            · intro x hx hq
              rw [tk] at hx
              rcases List.mem_append.mp hx with h | h
              · exact List.mem_append_left _ (hall x h hq)
              · exact List.mem_append_right _ h
          have hlv4 := hlv3.bar B (by simp [nlv, k5])
          refine ⟨_, rfl, _, rfl, recD r, (M.filter q).map recD, t1.dp, hlv4.dp, shaped_rec r, shaped_recs _, _, rfl, ?_⟩
          rw [anyq r hrM]
          cases hq : q r with
          | true =>
            refine iteT' rfl (iteT' rfl ?_)
            obtain ⟨us, g1, g2, g3⟩ := put H' (Bar.refl _ _) TT
            exact ⟨_, rfl, .inl ⟨rfl, _, .inl (.inl g1)⟩, _, rfl, kp, us, v, rfl, rfl, g1, g2, g3⟩
          | false =>
            refine iteF' rfl ?_
            refine ⟨_, rfl, tp, c, ns, 3, rfl, TT, by decide, by decide, fun kk Hx b0 b1 Bx Tx => ⟨rfl, _, rfl, ?_⟩⟩
            refine ite2 (fun _ => ?_) (fun _ => ?_)
            · obtain ⟨us, g1, g2, g3⟩ := put Hx Bx Tx
              exact ⟨_, rfl, .inl ⟨rfl, _, .inl (.inl g1)⟩, _, rfl, kp, us, v, rfl, rfl, g1, g2, g3⟩
            · refine ⟨ks, _, B.trans (Bx.mono (by simp)), Tx, hks.bar Bx (by simp [ntk.symm]), ?_, ?_, rfl⟩
              · rw [tk]
                exact hsub.trans (List.sublist_append_left _ _)
              · intro x hx hqx
                rw [tk] at hx
                rcases List.mem_append.mp hx with h | h
                · exact hall x h hqx
                · rw [List.mem_singleton.mp h, hq] at hqx
                  cases hqx
      · rintro σ' H' ⟨ks, y10, B, TT, hks, hsub, hall, rfl⟩
        rw [List.length_map, List.take_length] at hsub hall
        have al2 := S.al.step S.asc KQ (q := fun r => decide (r ∈ ks)) fun r hr hq => decide_eq_true (hall r hr hq)
        rw [sub_filter hsub S.asc.nodup] at al2
        refine ⟨_, rfl, kp, ks, _, _, _, _, _, ⟨TT, SF.ht.bar B (by simp [S.n1, k1]), SF.hv.bar B (by simp [S.n2, k2]), SF.hd.bar B (by simp [S.n3, k3']), hks, al2, List.Pairwise.sublist hsub S.asc, Nat.le_trans hsub.length_le S.len, S.n1, S.n2, S.n3, ntk.symm⟩, rfl⟩
    · rintro σ' H1' ⟨lf, M, x7, x8, x9, x10, x11, S, rfl⟩
      have m60 : M.length ≤ 60 := Nat.le_trans S.len (by decide)
      have hvx : ∀ z, z ∈ views L ↔ ex M z.1 z.2 := fun z => (mem_views hA).trans (S.al.ex _ _).symm
      refine ⟨_, rfl, _, rfl, _, rfl, lf, tl, vl, M, topics L, views L, rfl, S.hf, S.asc, m60, S.ht, S.hv, tlen, vlen, (fun z hz => (hvx z).mp hz), fun sl H3 s3 hsl0 hsl => ?_⟩
      rw [seen_due hA S.al] at hsl
      have SB := S.same s3
      refine ⟨_, rfl, .list _, .list _, hsl.dp, SB.hd.dp, shaped_vls _, shaped_vls _, _, rfl, ?_⟩
      rw [eqv_shaped (shaped_vls _)]
      refine iteT' rfl ?_
      exact ⟨_, rfl, _, rfl, lf, vl, M, views L, rfl, SB.hf, S.asc, m60, SB.hv, views_nd L, vlen, hvx, fun H' s' => k H'⟩
end
end K13
/-! ## K13E -/
/-! What the top has written, and the law's head. -/
namespace K13
open PySem L2
theorem all_mk {l : PySem.W.OpenLaw} {w : World} {K : PySem.W.Frag} {h : Heap} {mg : Str → Option Value} {fa C aH nH : Nat} {tkH u1 u2 : Tok} {ddH : Option Addr} {slH : Array (Option Value)} {fAn fSp fFe fEf fIn fHi fVi fLa fLo fLi fVa fSn fLr fNx fFi fRe fLe fLv fLt fLw fSe fDu fLs fLx : Addr} (X : K.In h) (G : h.Ns mainGlobals mg) (hfa : mg "law" = some (.ref fa))
    {odAn anAn odSp anSp odFe anFe odEf anEf odIn anIn odHi anHi odVi anVi odLa anLa odLo anLo odLi anLi odVa anVa odSn anSn odLr anLr odNx anNx odFi anFi odRe anRe odLe anLe odLv anLv odLt anLt odLw anLw odSe anSe odDu anDu odLs anLs odLx anLx : Option Addr} {slAn slSp slFe slEf slIn slHi slVi slLa slLo slLi slVa slSn slLr slNx slFi slRe slLe slLv slLt slLw slSe slDu slLs slLx : Array (Option Value)} {ocAn kVAn dcAn pmAn cdAn ctAn ocSp kVSp dcSp pmSp cdSp ctSp ocFe kVFe dcFe pmFe cdFe ctFe ocEf kVEf dcEf pmEf cdEf ctEf ocIn kVIn dcIn pmIn cdIn ctIn ocHi kVHi dcHi pmHi cdHi ctHi ocVi kVVi dcVi pmVi cdVi ctVi ocLa kVLa dcLa pmLa cdLa ctLa ocLo kVLo dcLo pmLo cdLo ctLo ocLi kVLi dcLi pmLi cdLi ctLi ocVa kVVa dcVa pmVa cdVa ctVa ocSn kVSn dcSn pmSn cdSn ctSn ocLr kVLr dcLr pmLr cdLr ctLr ocNx kVNx dcNx pmNx cdNx ctNx ocFi kVFi dcFi pmFi cdFi ctFi ocRe kVRe dcRe pmRe cdRe ctRe ocLe kVLe dcLe pmLe cdLe ctLe ocLv kVLv dcLv pmLv cdLv ctLv ocLt kVLt dcLt pmLt cdLt ctLt ocLw kVLw dcLw pmLw cdLw ctLw ocSe kVSe dcSe pmSe cdSe ctSe ocDu kVDu dcDu pmDu cdDu ctDu ocLs kVLs dcLs pmLs cdLs ctLs ocLx kVLx dcLx pmLx cdLx ctLx : Value}
    (aC : PySem.W.nsIn K mainGlobals "Table" = some (some (.ref C)))
    (aAn : PySem.W.nsIn K mainGlobals "answer_of" = some (some (.ref fAn))) (lAn : K.lookup fAn = some ⟨ocAn, odAn, .func (PySem.W.fnOf "answer_of" "answer_of" (defArgs sAns) (defBody sAns) (defScope sAns) .none kVAn dcAn pmAn anAn cdAn ctAn), slAn⟩) (cAn : PySem.W.codeIn K cdAn "answer_of" = true) (kAn : PySem.W.keepIn K (.ref fAn) = true)
    (aSp : PySem.W.nsIn K mainGlobals "space_effects" = some (some (.ref fSp))) (lSp : K.lookup fSp = some ⟨ocSp, odSp, .func (PySem.W.fnOf "space_effects" "space_effects" (defArgs sSpace) (defBody sSpace) (defScope sSpace) .none kVSp dcSp pmSp anSp cdSp ctSp), slSp⟩) (cSp : PySem.W.codeIn K cdSp "space_effects" = true) (kSp : PySem.W.keepIn K (.ref fSp) = true)
    (aFe : PySem.W.nsIn K mainGlobals "fence_effects" = some (some (.ref fFe))) (lFe : K.lookup fFe = some ⟨ocFe, odFe, .func (PySem.W.fnOf "fence_effects" "fence_effects" (defArgs sFence) (defBody sFence) (defScope sFence) .none kVFe dcFe pmFe anFe cdFe ctFe), slFe⟩) (cFe : PySem.W.codeIn K cdFe "fence_effects" = true) (kFe : PySem.W.keepIn K (.ref fFe) = true)
    (aEf : PySem.W.nsIn K mainGlobals "effects" = some (some (.ref fEf))) (lEf : K.lookup fEf = some ⟨ocEf, odEf, .func (PySem.W.fnOf "effects" "effects" (defArgs sEff) (defBody sEff) (defScope sEff) .none kVEf dcEf pmEf anEf cdEf ctEf), slEf⟩) (cEf : PySem.W.codeIn K cdEf "effects" = true) (kEf : PySem.W.keepIn K (.ref fEf) = true)
    (aIn : PySem.W.findIn K (.ref C) "__init__" = some (some (.ref fIn))) (iIn : PySem.W.isFn K (.ref fIn) = true) (lIn : K.lookup fIn = some ⟨ocIn, odIn, .func (PySem.W.fnOf "__init__" "Table.__init__" (defArgs sInit) (defBody sInit) (defScope sInit) .none kVIn dcIn pmIn anIn cdIn ctIn), slIn⟩) (cIn : PySem.W.codeIn K cdIn "Table.__init__" = true) (kIn : PySem.W.keepIn K (.ref fIn) = true)
    (aHi : PySem.W.findIn K (.ref C) "is_hidden" = some (some (.ref fHi))) (iHi : PySem.W.isFn K (.ref fHi) = true) (lHi : K.lookup fHi = some ⟨ocHi, odHi, .func (PySem.W.fnOf "is_hidden" "Table.is_hidden" (defArgs sHid) (defBody sHid) (defScope sHid) .none kVHi dcHi pmHi anHi cdHi ctHi), slHi⟩) (cHi : PySem.W.codeIn K cdHi "Table.is_hidden" = true) (kHi : PySem.W.keepIn K (.ref fHi) = true)
    (aVi : PySem.W.findIn K (.ref C) "views" = some (some (.ref fVi))) (iVi : PySem.W.isFn K (.ref fVi) = true) (lVi : K.lookup fVi = some ⟨ocVi, odVi, .func (PySem.W.fnOf "views" "Table.views" (defArgs sViews) (defBody sViews) (defScope sViews) .none kVVi dcVi pmVi anVi cdVi ctVi), slVi⟩) (cVi : PySem.W.codeIn K cdVi "Table.views" = true) (kVi : PySem.W.keepIn K (.ref fVi) = true)
    (aLa : PySem.W.findIn K (.ref C) "last_index" = some (some (.ref fLa))) (iLa : PySem.W.isFn K (.ref fLa) = true) (lLa : K.lookup fLa = some ⟨ocLa, odLa, .func (PySem.W.fnOf "last_index" "Table.last_index" (defArgs sLast) (defBody sLast) (defScope sLast) .none kVLa dcLa pmLa anLa cdLa ctLa), slLa⟩) (cLa : PySem.W.codeIn K cdLa "Table.last_index" = true) (kLa : PySem.W.keepIn K (.ref fLa) = true)
    (aLo : PySem.W.findIn K (.ref C) "live_orders" = some (some (.ref fLo))) (iLo : PySem.W.isFn K (.ref fLo) = true) (lLo : K.lookup fLo = some ⟨ocLo, odLo, .func (PySem.W.fnOf "live_orders" "Table.live_orders" (defArgs sLord) (defBody sLord) (defScope sLord) .none kVLo dcLo pmLo anLo cdLo ctLo), slLo⟩) (cLo : PySem.W.codeIn K cdLo "Table.live_orders" = true) (kLo : PySem.W.keepIn K (.ref fLo) = true)
    (aLi : PySem.W.findIn K (.ref C) "live" = some (some (.ref fLi))) (iLi : PySem.W.isFn K (.ref fLi) = true) (lLi : K.lookup fLi = some ⟨ocLi, odLi, .func (PySem.W.fnOf "live" "Table.live" (defArgs sLive) (defBody sLive) (defScope sLive) .none kVLi dcLi pmLi anLi cdLi ctLi), slLi⟩) (cLi : PySem.W.codeIn K cdLi "Table.live" = true) (kLi : PySem.W.keepIn K (.ref fLi) = true)
    (aVa : PySem.W.nsIn K mainGlobals "value_at" = some (some (.ref fVa))) (lVa : K.lookup fVa = some ⟨ocVa, odVa, .func (PySem.W.fnOf "value_at" "value_at" (defArgs sVal) (defBody sVal) (defScope sVal) .none kVVa dcVa pmVa anVa cdVa ctVa), slVa⟩) (cVa : PySem.W.codeIn K cdVa "value_at" = true) (kVa : PySem.W.keepIn K (.ref fVa) = true)
    (aSn : PySem.W.nsIn K mainGlobals "snapshots_of" = some (some (.ref fSn))) (lSn : K.lookup fSn = some ⟨ocSn, odSn, .func (PySem.W.fnOf "snapshots_of" "snapshots_of" (defArgs sSnaps) (defBody sSnaps) (defScope sSnaps) .none kVSn dcSn pmSn anSn cdSn ctSn), slSn⟩) (cSn : PySem.W.codeIn K cdSn "snapshots_of" = true) (kSn : PySem.W.keepIn K (.ref fSn) = true)
    (aLr : PySem.W.nsIn K mainGlobals "live_records" = some (some (.ref fLr))) (lLr : K.lookup fLr = some ⟨ocLr, odLr, .func (PySem.W.fnOf "live_records" "live_records" (defArgs sLiveR) (defBody sLiveR) (defScope sLiveR) .none kVLr dcLr pmLr anLr cdLr ctLr), slLr⟩) (cLr : PySem.W.codeIn K cdLr "live_records" = true) (kLr : PySem.W.keepIn K (.ref fLr) = true)
    (aNx : PySem.W.nsIn K mainGlobals "_law_next" = some (some (.ref fNx))) (lNx : K.lookup fNx = some ⟨ocNx, odNx, .func (PySem.W.fnOf "_law_next" "_law_next" (defArgs sNext) (defBody sNext) (defScope sNext) .none kVNx dcNx pmNx anNx cdNx ctNx), slNx⟩) (cNx : PySem.W.codeIn K cdNx "_law_next" = true) (kNx : PySem.W.keepIn K (.ref fNx) = true)
    (aFi : PySem.W.nsIn K mainGlobals "_law_fields" = some (some (.ref fFi))) (lFi : K.lookup fFi = some ⟨ocFi, odFi, .func (PySem.W.fnOf "_law_fields" "_law_fields" (defArgs sFields) (defBody sFields) (defScope sFields) .none kVFi dcFi pmFi anFi cdFi ctFi), slFi⟩) (cFi : PySem.W.codeIn K cdFi "_law_fields" = true) (kFi : PySem.W.keepIn K (.ref fFi) = true)
    (aRe : PySem.W.nsIn K mainGlobals "_law_records" = some (some (.ref fRe))) (lRe : K.lookup fRe = some ⟨ocRe, odRe, .func (PySem.W.fnOf "_law_records" "_law_records" (defArgs sRecs) (defBody sRecs) (defScope sRecs) .none kVRe dcRe pmRe anRe cdRe ctRe), slRe⟩) (cRe : PySem.W.codeIn K cdRe "_law_records" = true) (kRe : PySem.W.keepIn K (.ref fRe) = true)
    (aLe : PySem.W.nsIn K mainGlobals "_law_effects" = some (some (.ref fLe))) (lLe : K.lookup fLe = some ⟨ocLe, odLe, .func (PySem.W.fnOf "_law_effects" "_law_effects" (defArgs sLEff) (defBody sLEff) (defScope sLEff) .none kVLe dcLe pmLe anLe cdLe ctLe), slLe⟩) (cLe : PySem.W.codeIn K cdLe "_law_effects" = true) (kLe : PySem.W.keepIn K (.ref fLe) = true)
    (aLv : PySem.W.nsIn K mainGlobals "_law_value" = some (some (.ref fLv))) (lLv : K.lookup fLv = some ⟨ocLv, odLv, .func (PySem.W.fnOf "_law_value" "_law_value" (defArgs sLVal) (defBody sLVal) (defScope sLVal) .none kVLv dcLv pmLv anLv cdLv ctLv), slLv⟩) (cLv : PySem.W.codeIn K cdLv "_law_value" = true) (kLv : PySem.W.keepIn K (.ref fLv) = true)
    (aLt : PySem.W.nsIn K mainGlobals "_law_topics" = some (some (.ref fLt))) (lLt : K.lookup fLt = some ⟨ocLt, odLt, .func (PySem.W.fnOf "_law_topics" "_law_topics" (defArgs sLTop) (defBody sLTop) (defScope sLTop) .none kVLt dcLt pmLt anLt cdLt ctLt), slLt⟩) (cLt : PySem.W.codeIn K cdLt "_law_topics" = true) (kLt : PySem.W.keepIn K (.ref fLt) = true)
    (aLw : PySem.W.nsIn K mainGlobals "_law_views" = some (some (.ref fLw))) (lLw : K.lookup fLw = some ⟨ocLw, odLw, .func (PySem.W.fnOf "_law_views" "_law_views" (defArgs sLVws) (defBody sLVws) (defScope sLVws) .none kVLw dcLw pmLw anLw cdLw ctLw), slLw⟩) (cLw : PySem.W.codeIn K cdLw "_law_views" = true) (kLw : PySem.W.keepIn K (.ref fLw) = true)
    (aSe : PySem.W.nsIn K mainGlobals "_law_seen" = some (some (.ref fSe))) (lSe : K.lookup fSe = some ⟨ocSe, odSe, .func (PySem.W.fnOf "_law_seen" "_law_seen" (defArgs sLSeen) (defBody sLSeen) (defScope sLSeen) .none kVSe dcSe pmSe anSe cdSe ctSe), slSe⟩) (cSe : PySem.W.codeIn K cdSe "_law_seen" = true) (kSe : PySem.W.keepIn K (.ref fSe) = true)
    (aDu : PySem.W.nsIn K mainGlobals "_law_due" = some (some (.ref fDu))) (lDu : K.lookup fDu = some ⟨ocDu, odDu, .func (PySem.W.fnOf "_law_due" "_law_due" (defArgs sLDue) (defBody sLDue) (defScope sLDue) .none kVDu dcDu pmDu anDu cdDu ctDu), slDu⟩) (cDu : PySem.W.codeIn K cdDu "_law_due" = true) (kDu : PySem.W.keepIn K (.ref fDu) = true)
    (aLs : PySem.W.nsIn K mainGlobals "_law_snapshots" = some (some (.ref fLs))) (lLs : K.lookup fLs = some ⟨ocLs, odLs, .func (PySem.W.fnOf "_law_snapshots" "_law_snapshots" (defArgs sLSn) (defBody sLSn) (defScope sLSn) .none kVLs dcLs pmLs anLs cdLs ctLs), slLs⟩) (cLs : PySem.W.codeIn K cdLs "_law_snapshots" = true) (kLs : PySem.W.keepIn K (.ref fLs) = true)
    (aLx : PySem.W.nsIn K mainGlobals "law" = some (some (.ref fLx))) (lLx : K.lookup fLx = some ⟨ocLx, odLx, .func (PySem.W.fnOf "law" "law" (defArgs sLaw) (defBody sLaw) (defScope sLaw) .none kVLx dcLx pmLx anLx cdLx ctLx), slLx⟩) (cLx : PySem.W.codeIn K cdLx "law" = true) (kLx : PySem.W.keepIn K (.ref fLx) = true)
    (pg : PySem.W.plainGet K C Str.empty = true) (hd : PySem.W.hasDictIn K C = true) (po : PySem.W.plainOver K C = true) (sa : PySem.W.findIn K (.ref C) "__setattr__" = some (some (.builtin "object.__setattr__"))) (mk : PySem.W.makesIn K C = true) (kc : PySem.W.keepIn K (.ref C) = true)
    (nrecords : PySem.W.findIn K (.ref C) "records" = some none) (nrows : PySem.W.findIn K (.ref C) "rows" = some none) (noldest : PySem.W.findIn K (.ref C) "oldest" = some none) (nsnapshots : PySem.W.findIn K (.ref C) "snapshots" = some none)
    (zint : PySem.W.nsIn K mainGlobals "int" = some none) (zabs : PySem.W.nsIn K mainGlobals "abs" = some none) (zlen : PySem.W.nsIn K mainGlobals "len" = some none) (zlist : PySem.W.nsIn K mainGlobals "list" = some none) (ztuple : PySem.W.nsIn K mainGlobals "tuple" = some none) (zrange : PySem.W.nsIn K mainGlobals "range" = some none) (zsorted : PySem.W.nsIn K mainGlobals "sorted" = some none) (zisinstance : PySem.W.nsIn K mainGlobals "isinstance" = some none)
    (hE : PySem.W.nsIn K mainGlobals "HEAD" = some (some (.int 5 tkH))) (hT : PySem.W.nsIn K mainGlobals "HOST_TOPICS" = some (some (.ref aH))) (hL : K.lookup aH = some ⟨.type "tuple", ddH, .seq #[.str "host" u1, .str "told" u2] nH, slH⟩) :
    ∃ fd : FuncData, (∀ (s : Shared) (v : Value), BindsTo s fd ⟨[v], []⟩ [("_law_script", v)]) ∧ ∀ base : Heap, K.In base → base.Ns mainGlobals mg → FnOk l.prog w K mg base CX0 7 fa fd ["_law_script"] (spLaw K) := by
  have e := hfa.symm.trans (PySem.W.mg_of X G aLx)
  cases e
  have T : Txt K mg C := ⟨⟨pg, hd, po, sa⟩, nrecords, nrows, noldest, nsnapshots, PySem.W.mg_of X G aC, ⟨aH, PySem.W.mg_of X G hT, fun H => .inr ⟨_, _, _, hL, rfl, rfl, (by show 2 ≤ sizeLine; decide), .cons ⟨u1, rfl⟩ (.cons ⟨u2, rfl⟩ .nil)⟩⟩, PySem.W.mg_none_of X G zlen, PySem.W.mg_none_of X G zsorted⟩
  have B : Bis mg := ⟨PySem.W.mg_none_of X G zint, PySem.W.mg_none_of X G zabs, PySem.W.mg_none_of X G zlen, PySem.W.mg_none_of X G zlist, PySem.W.mg_none_of X G ztuple, PySem.W.mg_none_of X G zrange, PySem.W.mg_none_of X G zsorted, PySem.W.mg_none_of X G zisinstance⟩
  have mH := PySem.W.mg_of X G hE
  have FAn := fun_mk (st := sAns) lAn cAn kAn
  have bAn := FAn.binds (ps := ["record"]) fun _ _ _ _ _ _ us hl => match us, hl with | [_], _ => rfl
  have gAn := PySem.W.mg_of X G aAn
  have FSp := fun_mk (st := sSpace) lSp cSp kSp
  have bSp := FSp.binds (ps := ["record"]) fun _ _ _ _ _ _ us hl => match us, hl with | [_], _ => rfl
  have gSp := PySem.W.mg_of X G aSp
  have FFe := fun_mk (st := sFence) lFe cFe kFe
  have bFe := FFe.binds (ps := ["record"]) fun _ _ _ _ _ _ us hl => match us, hl with | [_], _ => rfl
  have gFe := PySem.W.mg_of X G aFe
  have FEf := fun_mk (st := sEff) lEf cEf kEf
  have bEf := FEf.binds (ps := ["record"]) fun _ _ _ _ _ _ us hl => match us, hl with | [_], _ => rfl
  have gEf := PySem.W.mg_of X G aEf
  have FIn := fun_mk (st := sInit) lIn cIn kIn
  have bIn := FIn.binds (ps := ["self", "records"]) fun _ _ _ _ _ _ us hl => match us, hl with | [_, _], _ => rfl
  have mIn : Meth K C "__init__" fIn := ⟨aIn, iIn, kIn⟩
  have FHi := fun_mk (st := sHid) lHi cHi kHi
  have bHi := FHi.binds (ps := ["self", "topic", "order", "view"]) fun _ _ _ _ _ _ us hl => match us, hl with | [_, _, _, _], _ => rfl
  have mHi : Meth K C "is_hidden" fHi := ⟨aHi, iHi, kHi⟩
  have FVi := fun_mk (st := sViews) lVi cVi kVi
  have bVi := FVi.binds (ps := ["self", "topic"]) fun _ _ _ _ _ _ us hl => match us, hl with | [_, _], _ => rfl
  have mVi : Meth K C "views" fVi := ⟨aVi, iVi, kVi⟩
  have FLa := fun_mk (st := sLast) lLa cLa kLa
  have bLa := FLa.binds (ps := ["self", "topic", "view"]) fun _ _ _ _ _ _ us hl => match us, hl with | [_, _, _], _ => rfl
  have mLa : Meth K C "last_index" fLa := ⟨aLa, iLa, kLa⟩
  have FLo := fun_mk (st := sLord) lLo cLo kLo
  have bLo := FLo.binds (ps := ["self", "topic"]) fun _ _ _ _ _ _ us hl => match us, hl with | [_, _], _ => rfl
  have mLo : Meth K C "live_orders" fLo := ⟨aLo, iLo, kLo⟩
  have FLi := fun_mk (st := sLive) lLi cLi kLi
  have bLi := FLi.binds (ps := ["self"]) fun _ _ _ _ _ _ us hl => match us, hl with | [_], _ => rfl
  have mLi : Meth K C "live" fLi := ⟨aLi, iLi, kLi⟩
  have FVa := fun_mk (st := sVal) lVa cVa kVa
  have bVa := FVa.binds (ps := ["records", "topic", "snapshot"]) fun _ _ _ _ _ _ us hl => match us, hl with | [_, _, _], _ => rfl
  have gVa := PySem.W.mg_of X G aVa
  have FSn := fun_mk (st := sSnaps) lSn cSn kSn
  have bSn := FSn.binds (ps := ["records", "namespace"]) fun _ _ _ _ _ _ us hl => match us, hl with | [_, _], _ => rfl
  have gSn := PySem.W.mg_of X G aSn
  have FLr := fun_mk (st := sLiveR) lLr cLr kLr
  have bLr := FLr.binds (ps := ["records"]) fun _ _ _ _ _ _ us hl => match us, hl with | [_], _ => rfl
  have gLr := PySem.W.mg_of X G aLr
  have FNx := fun_mk (st := sNext) lNx cNx kNx
  have bNx := FNx.binds (ps := ["_law_tape", "_law_many"]) fun _ _ _ _ _ _ us hl => match us, hl with | [_, _], _ => rfl
  have gNx := PySem.W.mg_of X G aNx
  have FFi := fun_mk (st := sFields) lFi cFi kFi
  have bFi := FFi.binds (ps := ["_law_tape", "_law_spaces", "_law_snaps"]) fun _ _ _ _ _ _ us hl => match us, hl with | [_, _, _], _ => rfl
  have gFi := PySem.W.mg_of X G aFi
  have FRe := fun_mk (st := sRecs) lRe cRe kRe
  have bRe := FRe.binds (ps := ["_law_tape", "_law_most"]) fun _ _ _ _ _ _ us hl => match us, hl with | [_, _], _ => rfl
  have gRe := PySem.W.mg_of X G aRe
  have FLe := fun_mk (st := sLEff) lLe cLe kLe
  have bLe := FLe.binds (ps := ["_law_record"]) fun _ _ _ _ _ _ us hl => match us, hl with | [_], _ => rfl
  have gLe := PySem.W.mg_of X G aLe
  have FLv := fun_mk (st := sLVal) lLv cLv kLv
  have bLv := FLv.binds (ps := ["_law_records_here", "_law_topic", "_law_view"]) fun _ _ _ _ _ _ us hl => match us, hl with | [_, _, _], _ => rfl
  have gLv := PySem.W.mg_of X G aLv
  have FLt := fun_mk (st := sLTop) lLt cLt kLt
  have bLt := FLt.binds (ps := ["_law_records_here"]) fun _ _ _ _ _ _ us hl => match us, hl with | [_], _ => rfl
  have gLt := PySem.W.mg_of X G aLt
  have FLw := fun_mk (st := sLVws) lLw cLw kLw
  have bLw := FLw.binds (ps := ["_law_records_here"]) fun _ _ _ _ _ _ us hl => match us, hl with | [_], _ => rfl
  have gLw := PySem.W.mg_of X G aLw
  have FSe := fun_mk (st := sLSeen) lSe cSe kSe
  have bSe := FSe.binds (ps := ["_law_records_here", "_law_topics_here", "_law_views_here"]) fun _ _ _ _ _ _ us hl => match us, hl with | [_, _, _], _ => rfl
  have gSe := PySem.W.mg_of X G aSe
  have FDu := fun_mk (st := sLDue) lDu cDu kDu
  have bDu := FDu.binds (ps := ["_law_records_here", "_law_topics_here", "_law_views_here"]) fun _ _ _ _ _ _ us hl => match us, hl with | [_, _, _], _ => rfl
  have gDu := PySem.W.mg_of X G aDu
  have FLs := fun_mk (st := sLSn) lLs cLs kLs
  have bLs := FLs.binds (ps := ["_law_records_here", "_law_views_here"]) fun _ _ _ _ _ _ us hl => match us, hl with | [_, _], _ => rfl
  have gLs := PySem.W.mg_of X G aLs
  have FLx := fun_mk (st := sLaw) lLx cLx kLx
  refine ⟨PySem.W.fnOf "law" "law" (defArgs sLaw) (defBody sLaw) (defScope sLaw) .none kVLx dcLx pmLx anLx cdLx ctLx, fun s v => .of_eq rfl, fun base _ _ => ?_⟩
  have M : Mk K C fIn := ⟨mk, aIn, iIn, kc⟩
  have QEf : FnOk l.prog w K mg base CX0 2 fEf _ ["record"] (spEffs (fun _ => true) eff) := ok_eff FEf mH FAn gAn bAn FSp gSp bSp FFe gFe bFe
  have QIn : FnOk l.prog w K mg base CX0 3 fIn _ ["self", "records"] (spInit C) := ok_init FIn T QEf gEf kEf bEf FHi bHi mHi
  have QLo : FnOk l.prog w K mg base CX0 2 fLo _ ["self", "topic"] (spLord C) := ok_lord FLo T FVi bVi mVi FLa bLa mLa FHi bHi mHi
  have QLi : FnOk l.prog w K mg base CX0 3 fLi _ ["self"] (spLive C) := ok_live FLi T QLo bLo mLo
  have QVa : FnOk l.prog w K mg base CX0 5 fVa _ ["records", "topic", "snapshot"] spVal := ok_val FVa T M QIn bIn FLa bLa mLa FHi bHi mHi
  have QSn : FnOk l.prog w K mg base CX0 5 fSn _ ["records", "namespace"] spSnaps := ok_snaps FSn T M QIn bIn
  have QLr : FnOk l.prog w K mg base CX0 5 fLr _ ["records"] spLiveR := ok_liveR FLr T M QIn bIn QLi bLi mLi
  have QFi : FnOk l.prog w K mg base CX0 2 fFi _ ["_law_tape", "_law_spaces", "_law_snaps"] spFields := ok_fields FFi B FNx gNx bNx
  have QRe : FnOk l.prog w K mg base CX0 3 fRe _ ["_law_tape", "_law_most"] spRecs := ok_recs FRe B FNx gNx bNx QFi gFi kFi bFi
  have QLv : FnOk l.prog w K mg base CX0 2 fLv _ ["_law_records_here", "_law_topic", "_law_view"] spLVal := ok_lval FLv B.sorted FLe gLe bLe
  have QLt : FnOk l.prog w K mg base CX0 2 fLt _ ["_law_records_here"] spTops := ok_ltop FLt FLe gLe bLe
  have QLw : FnOk l.prog w K mg base CX0 3 fLw _ ["_law_records_here"] spVws := ok_lvws FLw QLt gLt kLt bLt QLv gLv kLv bLv
  have QDu : FnOk l.prog w K mg base CX0 3 fDu _ ["_law_records_here", "_law_topics_here", "_law_views_here"] (spRowsOf lvOf) := ok_ldue FDu QLv gLv kLv bLv
  have QSe : FnOk l.prog w K mg base CX0 6 fSe _ ["_law_records_here", "_law_topics_here", "_law_views_here"] (spRowsOf valAt) := ok_lseen FSe QVa gVa kVa bVa
  have QLs : FnOk l.prog w K mg base CX0 6 fLs _ ["_law_records_here", "_law_views_here"] spLSn := ok_lsn FLs B.sorted B.range QSn gSn kSn bSn
  exact ok_law FLx B FNx gNx bNx QRe gRe kRe bRe QLt gLt kLt bLt QLw gLw kLw bLw QDu gDu kDu bDu QSe gSe kSe bSe QLs gLs kLs bLs QLr gLr kLr bLr
theorem walk {l : PySem.W.OpenLaw} {q : Program} {loose : List Str} {XP : (Str → Option Value) → Heap → Prop} {YP : World → Heap → Prop} {d : DefRec} {K : Params → PySem.W.Frag} (hn : l.most = some 63) (hdf : d.params.defaults = [])
    (hY : ∀ (w : World) (h : Heap), YP w h → (K w.params).In h)
    (F : ∀ (w : World) (mg : Str → Option Value) (fa : Addr) (h : Heap), (K w.params).In h → h.Ns mainGlobals mg → mg d.name = some (.ref fa) →
      ∃ fd : FuncData, (∀ (s : Shared) (u : Value), BindsTo s fd ⟨[u], []⟩ [("_law_script", u)]) ∧ ∀ base : Heap, (K w.params).In base → base.Ns mainGlobals mg → FnOk l.prog w (K w.params) mg base CX0 7 fa fd ["_law_script"] (spLaw (K w.params))) :
    PySem.W.WalkO q loose XP YP l.row.toRowW d [] (fun f vs => PySem.call f vs) :=
  L2.walk_of (n := 63) (k := 7) (x := "_law_script") (CX := fun _ => CX0) (sp := fun w => spLaw (K w.params)) hn (by decide) hdf ⟨rfl, by decide, by decide⟩ hY F (fun _ _ a ns _ _ hS => ⟨a, ns, rfl, hS, fun _ => rfl⟩) fun _ _ _ _ _ z => z
end K13
open PySem PySem.W PyProof.Rows
set_option maxRecDepth 100000 in
set_option maxHeartbeats 0 in
theorem PySem.Challenge.cw_spindlegate_k13_whole_dead_records_can_b_holds : PySem.Challenge.rw_spindlegate_k13_whole_dead_records_can_b.Holds := by
  w_on; o_law; k_head; (case hw => w_witness2)
  k_fill
  refine K13.walk (l := PySem.Challenge.rw_spindlegate_k13_whole_dead_records_can_b) rfl rfl (fun w h Y => PySem.W.kIn_of Y) ?F
  case F =>
    intro w mg fa h KX G hmg
    refine' K13.all_mk KX G hmg ?aC ?aAn ?lAn ?cAn ?kAn ?aSp ?lSp ?cSp ?kSp ?aFe ?lFe ?cFe ?kFe ?aEf ?lEf ?cEf ?kEf ?aIn ?iIn ?lIn ?cIn ?kIn ?aHi ?iHi ?lHi ?cHi ?kHi ?aVi ?iVi ?lVi ?cVi ?kVi ?aLa ?iLa ?lLa ?cLa ?kLa ?aLo ?iLo ?lLo ?cLo ?kLo ?aLi ?iLi ?lLi ?cLi ?kLi ?aVa ?lVa ?cVa ?kVa ?aSn ?lSn ?cSn ?kSn ?aLr ?lLr ?cLr ?kLr ?aNx ?lNx ?cNx ?kNx ?aFi ?lFi ?cFi ?kFi ?aRe ?lRe ?cRe ?kRe ?aLe ?lLe ?cLe ?kLe ?aLv ?lLv ?cLv ?kLv ?aLt ?lLt ?cLt ?kLt ?aLw ?lLw ?cLw ?kLw ?aSe ?lSe ?cSe ?kSe ?aDu ?lDu ?cDu ?kDu ?aLs ?lLs ?cLs ?kLs ?aLx ?lLx ?cLx ?kLx ?pg ?hd ?po ?sa ?mk ?kc ?nrecords ?nrows ?noldest ?nsnapshots ?zint ?zabs ?zlen ?zlist ?ztuple ?zrange ?zsorted ?zisinstance ?hE ?hT ?hL
    (case aC => k_is)
    (case aAn => k_is)
    (case lAn => k_is)
    (case cAn => k_is)
    (case kAn => k_is)
    (case aSp => k_is)
    (case lSp => k_is)
    (case cSp => k_is)
    (case kSp => k_is)
    (case aFe => k_is)
    (case lFe => k_is)
    (case cFe => k_is)
    (case kFe => k_is)
    (case aEf => k_is)
    (case lEf => k_is)
    (case cEf => k_is)
    (case kEf => k_is)
    (case aIn => k_is)
    (case iIn => k_is)
    (case lIn => k_is)
    (case cIn => k_is)
    (case kIn => k_is)
    (case aHi => k_is)
    (case iHi => k_is)
    (case lHi => k_is)
    (case cHi => k_is)
    (case kHi => k_is)
    (case aVi => k_is)
    (case iVi => k_is)
    (case lVi => k_is)
    (case cVi => k_is)
    (case kVi => k_is)
    (case aLa => k_is)
    (case iLa => k_is)
    (case lLa => k_is)
    (case cLa => k_is)
    (case kLa => k_is)
    (case aLo => k_is)
    (case iLo => k_is)
    (case lLo => k_is)
    (case cLo => k_is)
    (case kLo => k_is)
    (case aLi => k_is)
    (case iLi => k_is)
    (case lLi => k_is)
    (case cLi => k_is)
    (case kLi => k_is)
    (case aVa => k_is)
    (case lVa => k_is)
    (case cVa => k_is)
    (case kVa => k_is)
    (case aSn => k_is)
    (case lSn => k_is)
    (case cSn => k_is)
    (case kSn => k_is)
    (case aLr => k_is)
    (case lLr => k_is)
    (case cLr => k_is)
    (case kLr => k_is)
    (case aNx => k_is)
    (case lNx => k_is)
    (case cNx => k_is)
    (case kNx => k_is)
    (case aFi => k_is)
    (case lFi => k_is)
    (case cFi => k_is)
    (case kFi => k_is)
    (case aRe => k_is)
    (case lRe => k_is)
    (case cRe => k_is)
    (case kRe => k_is)
    (case aLe => k_is)
    (case lLe => k_is)
    (case cLe => k_is)
    (case kLe => k_is)
    (case aLv => k_is)
    (case lLv => k_is)
    (case cLv => k_is)
    (case kLv => k_is)
    (case aLt => k_is)
    (case lLt => k_is)
    (case cLt => k_is)
    (case kLt => k_is)
    (case aLw => k_is)
    (case lLw => k_is)
    (case cLw => k_is)
    (case kLw => k_is)
    (case aSe => k_is)
    (case lSe => k_is)
    (case cSe => k_is)
    (case kSe => k_is)
    (case aDu => k_is)
    (case lDu => k_is)
    (case cDu => k_is)
    (case kDu => k_is)
    (case aLs => k_is)
    (case lLs => k_is)
    (case cLs => k_is)
    (case kLs => k_is)
    (case aLx => k_is)
    (case lLx => k_is)
    (case cLx => k_is)
    (case kLx => k_is)
    (case pg => k_is)
    (case hd => k_is)
    (case po => k_is)
    (case sa => k_is)
    (case mk => k_is)
    (case kc => k_is)
    (case nrecords => k_is)
    (case nrows => k_is)
    (case noldest => k_is)
    (case nsnapshots => k_is)
    (case zint => k_is)
    (case zabs => k_is)
    (case zlen => k_is)
    (case zlist => k_is)
    (case ztuple => k_is)
    (case zrange => k_is)
    (case zsorted => k_is)
    (case zisinstance => k_is)
    (case hE => k_is)
    (case hT => k_is)
    (case hL => k_is)
#print axioms PySem.Challenge.cw_spindlegate_k13_whole_dead_records_can_b_holds
