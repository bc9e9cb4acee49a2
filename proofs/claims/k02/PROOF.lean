import PyProof.Rows.All
import Wide.All
import OpenK.AllK
import Wide.FinOn
import HandS.ForMost
import HandS.Deep
import HandS.Star
import HandS.TupAny
import HandS.Wide
import HandS.SortInts
import HandS.Flow
import HandS.SetFor
import HandS.Strs
import HandS.Text
import PyProof.Rows.StrPins2
import HandS.IsInst
import HandS.Property
import HandS.ClsMeth
import HandS.FStr
import HandS.Style
import HandS.Conv
import HandS.Zip
import HandS.FStrTup
import HandS.Ends
import HandS.HeadEnd
import PyProof.ReprRoads
import HandS.TupSets
import HandS.SortRule
import KE.KOpsOwn
import PyProof.P3In
import PyProof.RulesMatch
import HandS.Exc
import HandS.ExcOwn
import HandS.WordsExc
import HandS.TryMany
import HandS.SlotsOwn
import OpenK.KOps
import PyProof.ListNew
import PyProof.InstNe
import OpenK.KMeth
import PyProof.TupleOfSeq
import PyProof.WalkInts
import PyProof.WalksMore
import PyProof.StrLawsRepr
import PyProof.CollectStr
import HandS.ReplaceLit
import PyProof.ListStr
import PyProof.StrLawsReplace
import KE.IntTextLaws
import HandS.GenList
import HandS.GenYield
import PyProof.GenComp
import KE.KStateDown
import HandS.Head0
import HandS.Head1
import HandS.Head2
import HandS.HeadHook1
import HandS.HeadHook2
import PySem.Challenge.RW_countcycles_k02_texts_of_tables
set_option Elab.async false
set_option linter.all false
set_option maxRecDepth 100000
set_option maxHeartbeats 4000000
/-! Plain mathematics: sorting, walks. -/
namespace Mt
/-- the ints of a list, each once, ascending -/
def ins (x : Int) : List Int → List Int
  | [] => [x]
  | y :: r => if x < y then x :: y :: r else if x = y then y :: r else y :: ins x r
def srt (ns : List Int) : List Int := ns.foldr ins []
theorem mem_ins {x z : Int} : ∀ {l : List Int}, z ∈ ins x l ↔ z = x ∨ z ∈ l
  | [] => by simp [ins]
  | y :: r => by
    unfold ins
    split
    · simp
    · split
      · rename_i h; subst h; simp
      · rw [List.mem_cons, mem_ins (l := r), List.mem_cons]
        constructor
        · rintro (h | h | h)
          · exact .inr (.inl h)
          · exact .inl h
          · exact .inr (.inr h)
        · rintro (h | h | h)
          · exact .inr (.inl h)
          · exact .inl h
          · exact .inr (.inr h)
theorem mem_srt {z : Int} : ∀ {l : List Int}, z ∈ srt l ↔ z ∈ l
  | [] => by simp [srt]
  | y :: r => by
    show z ∈ ins y (srt r) ↔ _
    rw [mem_ins, mem_srt (l := r), List.mem_cons]
theorem ins_sorted {x : Int} : ∀ {l : List Int}, l.Pairwise (· < ·) → (ins x l).Pairwise (· < ·)
  | [], _ => by simp [ins]
  | y :: r, h => by
    obtain ⟨h1, h2⟩ := List.pairwise_cons.mp h
    unfold ins
    split
    · rename_i hxy
      refine List.pairwise_cons.mpr ⟨fun z hz => ?_, h⟩
      rcases List.mem_cons.mp hz with rfl | hz
      · exact hxy
      · have := h1 z hz
        omega
    · split
      · exact h
      · refine List.pairwise_cons.mpr ⟨fun z hz => ?_, ins_sorted h2⟩
        rcases mem_ins.mp hz with rfl | hz
        · omega
        · exact h1 z hz
theorem srt_sorted : ∀ l : List Int, (srt l).Pairwise (· < ·)
  | [] => by simp [srt]
  | y :: r => ins_sorted (srt_sorted r)
theorem sorted_unique : ∀ {l m : List Int}, l.Pairwise (· < ·) → m.Pairwise (· < ·) → (∀ z, z ∈ l ↔ z ∈ m) → l = m
  | [], [], _, _, _ => rfl
  | [], y :: m, _, _, h => by
    have := (h y).mpr (by simp)
    simp at this
  | x :: l, [], _, _, h => by
    have := (h x).mp (by simp)
    simp at this
  | x :: l, y :: m, h1, h2, h => by
    obtain ⟨a1, a2⟩ := List.pairwise_cons.mp h1
    obtain ⟨b1, b2⟩ := List.pairwise_cons.mp h2
    have e : x = y := by
      have p := (h x).mp (by simp)
      have q := (h y).mpr (by simp)
      rcases List.mem_cons.mp p with e | p
      · exact e
      · rcases List.mem_cons.mp q with e | q
        · exact e.symm
        · have := b1 x p
          have := a1 y q
          omega
    subst e
    rw [sorted_unique a2 b2 fun z => ?_]
    constructor
    · intro hz
      rcases List.mem_cons.mp ((h z).mp (List.mem_cons_of_mem _ hz)) with e | q
      · have := a1 z hz
        omega
      · exact q
    · intro hz
      rcases List.mem_cons.mp ((h z).mpr (List.mem_cons_of_mem _ hz)) with e | q
      · have := b1 z hz
        omega
      · exact q
theorem srt_length : ∀ l : List Int, (srt l).length ≤ l.length
  | [] => Nat.le_refl _
  | y :: r => by
    have h := srt_length r
    have : ∀ (x : Int) (m : List Int), (ins x m).length ≤ m.length + 1 := by
      intro x m
      induction m with
      | nil => simp [ins]
      | cons z m ih =>
        unfold ins
        split
        · simp
        · split
          · simp
          · simp; exact ih
    have q := this y (srt r)
    show (ins y (srt r)).length ≤ r.length + 1
    omega
/-- the ends of the pairs that start at c -/
def endsAt (ps : List (Int × Int)) (c : Int) : List Int := (ps.filter fun p => p.1 == c).map (·.2)
/-- one column more -/
def stepC (w : List Int) (s : List (List Int) × List Int) (c : Int) : List (List Int) × List Int := if s.2.contains c then s else (s.1 ++ [w ++ [c]], s.2 ++ [c])
def stepW (ps : List (Int × Int)) (s : List (List Int) × List Int) (w : List Int) : List (List Int) × List Int := (srt (endsAt ps (w.getLastD 0))).foldl (stepC w) s
def level (ps : List (Int × Int)) (ws : List (List Int)) (had : List Int) : List (List Int) × List Int := ws.foldl (stepW ps) ([], had)
def run (ps : List (Int × Int)) (b : Int) : Nat → List (List Int) → List Int → Option (Option (List Int))
  | 0, _, _ => none
  | m + 1, ws, had => if ws = [] then some none else match ws.find? (fun w => w.getLastD 0 == b) with
    | some w => some (some w)
    | none => run ps b m (level ps ws had).1 (level ps ws had).2
/-- walks and had as the loop keeps them -/
structure Wk (ps : List (Int × Int)) (a : Int) (n : Nat) (ws : List (List Int)) (had : List Int) : Prop where
  ne : ∀ w ∈ ws, w ≠ []
  le : ∀ w ∈ ws, w.length ≤ n
  few : ws.length ≤ had.length
  nd : had.Nodup
  of : ∀ x ∈ had, x = a ∨ x ∈ ps.map (·.2)
theorem stepC_no {w : List Int} {s : List (List Int) × List Int} {c : Int} (h : s.2.contains c = true) : stepC w s c = s := by unfold stepC; rw [if_pos h]
theorem stepC_yes {w : List Int} {s : List (List Int) × List Int} {c : Int} (h : s.2.contains c = false) : stepC w s c = (s.1 ++ [w ++ [c]], s.2 ++ [c]) := by unfold stepC; rw [if_neg (by rw [h]; decide)]
/-- what one turn adds keeps within bounds -/
structure Lv (ps : List (Int × Int)) (a : Int) (n : Nat) (s : List (List Int) × List Int) : Prop where
  ne : ∀ w ∈ s.1, w ≠ []
  le : ∀ w ∈ s.1, w.length ≤ n + 1
  few : s.1.length ≤ s.2.length
  nd : s.2.Nodup
  of : ∀ x ∈ s.2, x = a ∨ x ∈ ps.map (·.2)
theorem nodup_le {α : Type} [DecidableEq α] : ∀ {l m : List α}, l.Nodup → (∀ x ∈ l, x ∈ m) → l.length ≤ m.length
  | [], _, _, _ => Nat.zero_le _
  | x :: l, m, h, hs => by
    obtain ⟨h1, h2⟩ := List.nodup_cons.mp h
    have hx : x ∈ m := hs x (by simp)
    have := nodup_le (l := l) (m := m.erase x) h2 fun y hy => (List.mem_erase_of_ne (fun z => h1 (by rw [← z]; exact hy))).mpr (hs y (by simp [hy]))
    rw [List.length_erase_of_mem hx] at this
    have : 0 < m.length := List.length_pos_of_mem hx
    simp
    omega
theorem Lv.had {ps : List (Int × Int)} {a : Int} {n : Nat} {s : List (List Int) × List Int} (h : Lv ps a n s) : s.2.length ≤ ps.length + 1 := by
  have := nodup_le (m := a :: ps.map (·.2)) h.nd fun x hx => by
    rcases h.of x hx with z | z
    · simp [z]
    · exact List.mem_cons_of_mem _ z
  simpa using this
theorem Lv.add {ps : List (Int × Int)} {a c : Int} {n : Nat} {w : List Int} {s : List (List Int) × List Int} (h : Lv ps a n s) (hw : w.length ≤ n) (hc : c ∈ ps.map (·.2)) (hn : s.2.contains c = false) : Lv ps a n (s.1 ++ [w ++ [c]], s.2 ++ [c]) := by
  have hc' : c ∉ s.2 := fun z => by rw [List.contains_iff_mem.mpr z] at hn; cases hn
  refine ⟨fun v hv => ?_, fun v hv => ?_, ?_, ?_, fun x hx => ?_⟩
  · rcases List.mem_append.mp hv with hv | hv
    · exact h.ne v hv
    · simp at hv; rw [hv]; simp
  · rcases List.mem_append.mp hv with hv | hv
    · exact h.le v hv
    · simp at hv; rw [hv]; simp; omega
  · have := h.few
    simp; omega
  · rw [List.nodup_append]
    exact ⟨h.nd, by simp, fun x hx y hy => by simp at hy; rw [hy]; exact fun z => hc' (z ▸ hx)⟩
  · rcases List.mem_append.mp hx with hx | hx
    · exact h.of x hx
    · simp at hx; rw [hx]; exact .inr hc

/-! ### it ends -/
def rem (ps : List (Int × Int)) (had : List Int) : Nat := ((ps.map (·.2)).filter fun c => !had.contains c).length
theorem rem_lt {ps : List (Int × Int)} {had hd : List Int} (hs : ∀ x ∈ had, x ∈ hd) {c : Int} (hc : c ∈ ps.map (·.2)) (h1 : c ∉ had) (h2 : c ∈ hd) : rem ps hd < rem ps had := by
  unfold rem
  generalize ps.map (·.2) = l at hc ⊢
  have mono : ∀ m : List Int, (m.filter fun c => !hd.contains c).length ≤ (m.filter fun c => !had.contains c).length := by
    intro m
    induction m with
    | nil => simp
    | cons x m ih =>
      rw [List.filter_cons, List.filter_cons]
      by_cases hx : x ∈ had
      · have e1 : (!had.contains x) = false := by simp [hx]
        have e2 : (!hd.contains x) = false := by simp [hs x hx]
        rw [e1, e2]
        exact ih
      · have e1 : (!had.contains x) = true := by simp [hx]
        rw [e1, if_pos rfl]
        split
        · rw [List.length_cons, List.length_cons]; omega
        · rw [List.length_cons]; omega
  induction l with
  | nil => cases hc
  | cons x m ih =>
    rw [List.filter_cons, List.filter_cons]
    by_cases hx : x = c
    · subst hx
      have e1 : (!had.contains x) = true := by simp [h1]
      have e2 : (!hd.contains x) = false := by simp [h2]
      rw [e1, e2, if_pos rfl, if_neg (by decide)]
      have := mono m
      rw [List.length_cons]; omega
    · have hm : c ∈ m := by
        rcases List.mem_cons.mp hc with z | z
        · exact absurd z.symm hx
        · exact z
      have := ih hm
      by_cases hx : x ∈ had
      · have e1 : (!had.contains x) = false := by simp [hx]
        have e2 : (!hd.contains x) = false := by simp [hs x hx]
        rw [e1, e2]
        exact this
      · have e1 : (!had.contains x) = true := by simp [hx]
        rw [e1, if_pos rfl]
        split
        · rw [List.length_cons, List.length_cons]; omega
        · rw [List.length_cons]; omega
/-- how a state of a level stands to what was had before -/
structure Nw (ps : List (Int × Int)) (had : List Int) (s : List (List Int) × List Int) : Prop where
  sub : ∀ x ∈ had, x ∈ s.2
  new : s.1 ≠ [] → ∃ c ∈ ps.map (·.2), c ∉ had ∧ c ∈ s.2
theorem endsAt_mem {ps : List (Int × Int)} {c d : Int} : d ∈ endsAt ps c ↔ (c, d) ∈ ps := by
  unfold endsAt
  rw [List.mem_map]
  constructor
  · rintro ⟨⟨x, y⟩, hp, rfl⟩
    obtain ⟨h1, h2⟩ := List.mem_filter.mp hp
    have : x = c := by simpa using h2
    rw [← this]
    exact h1
  · intro h
    exact ⟨(c, d), List.mem_filter.mpr ⟨h, by simp⟩, rfl⟩
theorem Nw.stepC {ps : List (Int × Int)} {had : List Int} {s : List (List Int) × List Int} {w : List Int} {c : Int} (h : Nw ps had s) (hc : c ∈ ps.map (·.2)) : Nw ps had (stepC w s c) := by
  by_cases q : s.2.contains c = true
  · rw [stepC_no q]; exact h
  · have q' : s.2.contains c = false := by simpa using q
    rw [stepC_yes q']
    have hn : c ∉ s.2 := fun z => q (List.contains_iff_mem.mpr z)
    exact ⟨fun x hx => List.mem_append_left _ (h.sub x hx), fun _ => ⟨c, hc, fun z => hn (h.sub c z), by simp⟩⟩
theorem foldl_keep {α β : Type} {f : β → α → β} (Q : β → Prop) : ∀ {l : List α} {s : β}, Q s → (∀ s, ∀ a ∈ l, Q s → Q (f s a)) → Q (l.foldl f s)
  | [], _, h, _ => h
  | a :: l, _, h, hs => foldl_keep (l := l) Q (hs _ a (by simp) h) fun s b hb => hs s b (by simp [hb])
theorem Nw.level (ps : List (Int × Int)) (ws : List (List Int)) (had : List Int) : Nw ps had (level ps ws had) :=
  foldl_keep (Nw ps had) ⟨fun _ h => h, fun h => absurd rfl h⟩ fun s w _ h => foldl_keep (Nw ps had) h fun s c hc h => h.stepC (List.mem_map.mpr ⟨(w.getLastD 0, c), endsAt_mem.mp (mem_srt.mp hc), rfl⟩)
theorem run_ends (ps : List (Int × Int)) (b : Int) : ∀ (m : Nat) (ws : List (List Int)) (had : List Int), 1 ≤ m → (ws = [] ∨ rem ps had + 2 ≤ m) → ∃ r, run ps b m ws had = some r
  | 0, _, _, h, _ => by omega
  | m + 1, ws, had, _, h => by
    unfold run
    by_cases e : ws = []
    · exact ⟨none, by rw [if_pos e]⟩
    · rw [if_neg e]
      cases q : ws.find? (fun w => w.getLastD 0 == b) with
      | some w => exact ⟨some w, rfl⟩
      | none =>
        have h2 : rem ps had + 2 ≤ m + 1 := h.resolve_left e
        have L := Nw.level ps ws had
        refine run_ends ps b m _ _ (by omega) ?_
        by_cases z : (level ps ws had).1 = []
        · exact .inl z
        · obtain ⟨c, h3, h4, h5⟩ := L.new z
          have := rem_lt L.sub h3 h4 h5
          exact .inr (by omega)
def short (ps : List (Int × Int)) (a b : Int) : Option (List Int) := (run ps b (ps.length + 3) [[a]] [a]).getD none
theorem short_run (ps : List (Int × Int)) (a b : Int) : run ps b (ps.length + 3) [[a]] [a] = some (short ps a b) := by
  obtain ⟨r, h⟩ := run_ends ps b (ps.length + 3) [[a]] [a] (by omega) (.inr (by
    have : rem ps [a] ≤ ps.length := by
      unfold rem
      exact Nat.le_trans (List.length_filter_le _ _) (by simp)
    omega))
  unfold short
  rw [h]; rfl

/-! ### what it finds -/
/-- there is a way by pairs -/
inductive Rch (ps : List (Int × Int)) (a : Int) : Int → Prop
  | refl : Rch ps a a
  | step {c d : Int} : Rch ps a c → (c, d) ∈ ps → Rch ps a d
theorem Rch.trans {ps : List (Int × Int)} {a b c : Int} (h : Rch ps a b) (h2 : Rch ps b c) : Rch ps a c := by
  induction h2 with
  | refl => exact h
  | step _ hp ih => exact .step ih hp
theorem Rch.one {ps : List (Int × Int)} {a b : Int} (h : (a, b) ∈ ps) : Rch ps a b := .step .refl h
theorem Rch.mono {ps qs : List (Int × Int)} {a b : Int} (h : Rch ps a b) (hs : ∀ p ∈ ps, p ∈ qs) : Rch qs a b := by
  induction h with
  | refl => exact .refl
  | step _ hp ih => exact .step ih (hs _ hp)
/-- a walk by pairs from a -/
inductive Wlk (ps : List (Int × Int)) (a : Int) : List Int → Int → Prop
  | one : Wlk ps a [a] a
  | more {w : List Int} {c d : Int} : Wlk ps a w c → (c, d) ∈ ps → Wlk ps a (w ++ [d]) d
theorem Wlk.rch {ps : List (Int × Int)} {a c : Int} {w : List Int} (h : Wlk ps a w c) : Rch ps a c := by
  induction h with
  | one => exact .refl
  | more _ hp ih => exact .step ih hp
theorem Wlk.last {ps : List (Int × Int)} {a c : Int} {w : List Int} (h : Wlk ps a w c) : w.getLastD 0 = c := by
  cases h with
  | one => rfl
  | more h hp => simp [List.getLastD_eq_getLast?]
/-- the state between two levels: had is closed but for the ends of ws -/
structure Bf (ps : List (Int × Int)) (a : Int) (ws : List (List Int)) (had : List Int) : Prop where
  wlk : ∀ w ∈ ws, Wlk ps a w (w.getLastD 0)
  a_in : a ∈ had
  cl : ∀ c ∈ had, (∃ w ∈ ws, w.getLastD 0 = c) ∨ ∀ d, (c, d) ∈ ps → d ∈ had
/-- .. within a level: old are the walks that are done -/
structure Bm (ps : List (Int × Int)) (a : Int) (had : List Int) (s : List (List Int) × List Int) : Prop where
  wlk : ∀ w ∈ s.1, Wlk ps a w (w.getLastD 0)
  sub : ∀ x ∈ had, x ∈ s.2
  new : ∀ c ∈ s.2, c ∈ had ∨ ∃ w ∈ s.1, w.getLastD 0 = c
theorem getLastD_append (w : List Int) (c : Int) : (w ++ [c]).getLastD 0 = c := by simp [List.getLastD_eq_getLast?]
theorem Bm.stepC {ps : List (Int × Int)} {a : Int} {had : List Int} {s : List (List Int) × List Int} {w : List Int} {c : Int} (h : Bm ps a had s) (hw : Wlk ps a w (w.getLastD 0)) (hc : (w.getLastD 0, c) ∈ ps) : Bm ps a had (stepC w s c) := by
  by_cases q : s.2.contains c = true
  · rw [stepC_no q]; exact h
  · have q' : s.2.contains c = false := by simpa using q
    rw [stepC_yes q']
    refine ⟨fun v hv => ?_, fun x hx => List.mem_append_left _ (h.sub x hx), fun x hx => ?_⟩
    · rcases List.mem_append.mp hv with hv | hv
      · exact h.wlk v hv
      · have : v = w ++ [c] := by simpa using hv
        subst this
        rw [getLastD_append]
        exact .more hw hc
    · rcases List.mem_append.mp hx with hx | hx
      · rcases h.new x hx with z | ⟨v, hv, e⟩
        · exact .inl z
        · exact .inr ⟨v, List.mem_append_left _ hv, e⟩
      · have : x = c := by simpa using hx
        subst this
        exact .inr ⟨w ++ [x], by simp, getLastD_append w x⟩
theorem stepC_in {w : List Int} {s : List (List Int) × List Int} {c : Int} : c ∈ (stepC w s c).2 := by
  by_cases q : s.2.contains c = true
  · rw [stepC_no q]; exact List.contains_iff_mem.mp q
  · rw [stepC_yes (by simpa using q)]; simp
theorem stepC_sub {w : List Int} {s : List (List Int) × List Int} {c x : Int} (h : x ∈ s.2) : x ∈ (stepC w s c).2 := by
  by_cases q : s.2.contains c = true
  · rw [stepC_no q]; exact h
  · rw [stepC_yes (by simpa using q)]; simp [h]
theorem foldC_sub {w : List Int} : ∀ {l : List Int} {s : List (List Int) × List Int} {x : Int}, x ∈ s.2 → x ∈ (l.foldl (stepC w) s).2
  | [], _, _, h => h
  | _ :: l, _, _, h => foldC_sub (l := l) (stepC_sub h)
theorem foldC_in {w : List Int} : ∀ {l : List Int} {s : List (List Int) × List Int} {x : Int}, x ∈ l → x ∈ (l.foldl (stepC w) s).2
  | y :: l, s, x, h => by
    rcases List.mem_cons.mp h with e | h
    · subst e; exact foldC_sub (l := l) stepC_in
    · exact foldC_in (l := l) h
theorem foldW_sub {ps : List (Int × Int)} : ∀ {l : List (List Int)} {s : List (List Int) × List Int} {x : Int}, x ∈ s.2 → x ∈ (l.foldl (stepW ps) s).2
  | [], _, _, h => h
  | _ :: l, _, _, h => foldW_sub (l := l) (foldC_sub h)
theorem foldW_in {ps : List (Int × Int)} : ∀ {l : List (List Int)} {s : List (List Int) × List Int} {w : List Int} {d : Int}, w ∈ l → (w.getLastD 0, d) ∈ ps → d ∈ (l.foldl (stepW ps) s).2
  | y :: l, s, w, d, h, hp => by
    rcases List.mem_cons.mp h with e | h
    · subst e
      exact foldW_sub (l := l) (foldC_in (mem_srt.mpr (endsAt_mem.mpr hp)))
    · exact foldW_in (l := l) h hp
theorem Bf.level {ps : List (Int × Int)} {a : Int} {ws : List (List Int)} {had : List Int} (h : Bf ps a ws had) : Bf ps a (level ps ws had).1 (level ps ws had).2 := by
  have B : Bm ps a had (Mt.level ps ws had) := foldl_keep (Bm ps a had) ⟨by simp, fun _ h => h, fun c hc => .inl hc⟩ fun s w hw hb =>
    foldl_keep (Bm ps a had) hb fun s c hc hb => hb.stepC (h.wlk w hw) (endsAt_mem.mp (mem_srt.mp hc))
  refine ⟨B.wlk, B.sub a h.a_in, fun c hc => ?_⟩
  rcases B.new c hc with z | z
  · rcases h.cl c z with ⟨w, hw, e⟩ | q
    · refine .inr fun d hd => ?_
      subst e
      exact foldW_in hw hd
    · exact .inr fun d hd => B.sub d (q d hd)
  · exact .inl z
theorem run_spec {ps : List (Int × Int)} {a b : Int} : ∀ {m : Nat} {ws : List (List Int)} {had : List Int} {r : Option (List Int)}, Bf ps a ws had → (∀ c ∈ had, c = b → ∃ w ∈ ws, w.getLastD 0 = b) → run ps b m ws had = some r →
    (∀ w, r = some w → Wlk ps a w b) ∧ (r = none → ¬ Rch ps a b)
  | 0, _, _, _, _, _, h => by cases h
  | m + 1, ws, had, r, B, hb, h => by
    unfold run at h
    by_cases e : ws = []
    · rw [if_pos e] at h
      cases h
      refine ⟨fun w z => (by cases z), fun _ hr => ?_⟩
      have cl : ∀ c, Rch ps a c → c ∈ had := by
        intro c hc
        induction hc with
        | refl => exact B.a_in
        | step _ hp ih =>
          rcases B.cl _ ih with ⟨w, hw, _⟩ | q
          · rw [e] at hw; cases hw
          · exact q _ hp
      obtain ⟨w, hw, _⟩ := hb b (cl b hr) rfl
      rw [e] at hw; cases hw
    · rw [if_neg e] at h
      cases q : ws.find? (fun w => w.getLastD 0 == b) with
      | some w =>
        rw [q] at h
        cases h
        refine ⟨fun w' z => ?_, fun z => (by cases z)⟩
        cases z
        have h1 := List.find?_some q
        have h2 := B.wlk w (List.mem_of_find?_eq_some q)
        have : w.getLastD 0 = b := by simpa using h1
        rw [this] at h2
        exact h2
      | none =>
        rw [q] at h
        refine run_spec B.level (fun c hc ec => ?_) h
        subst ec
        have hno := List.find?_eq_none.mp q
        have Bmm : Bm ps a had (Mt.level ps ws had) := foldl_keep (Bm ps a had) ⟨by simp, fun _ h => h, fun c hc => .inl hc⟩ fun s w hw hb =>
          foldl_keep (Bm ps a had) hb fun s c hc hb => hb.stepC (B.wlk w hw) (endsAt_mem.mp (mem_srt.mp hc))
        rcases Bmm.new c hc with z | z
        · obtain ⟨w, hw, e2⟩ := hb c z rfl
          exact absurd (show (w.getLastD 0 == c) = true by rw [e2]; simp) (hno w hw)
        · exact z
theorem short_spec (ps : List (Int × Int)) (a b : Int) : (∀ w, short ps a b = some w → Wlk ps a w b) ∧ (short ps a b = none → ¬ Rch ps a b) :=
  run_spec ⟨by intro w hw; have : w = [a] := by simpa using hw
               subst this; exact .one, by simp, fun c hc => .inl ⟨[a], by simp, by simp at hc; simp [hc]⟩⟩ (fun c hc e => ⟨[a], by simp, by simp at hc; subst hc; simp [e]⟩) (short_run ps a b)
/-- leads -/
theorem short_some (ps : List (Int × Int)) (a b : Int) : (short ps a b).isSome = true ↔ Rch ps a b := by
  obtain ⟨h1, h2⟩ := short_spec ps a b
  cases e : short ps a b with
  | none => exact ⟨fun z => (by cases z), fun z => absurd z (h2 e)⟩
  | some w => exact ⟨fun _ => (h1 w e).rch, fun _ => rfl⟩

/-! ### rules -/
/-- a rule: true for settles -/
abbrev R := Bool × Int × Int
def dn (r : R) : Int × Int := if r.1 = true then (r.2.1, r.2.2) else (r.2.2, r.2.1)
def dns (rs : List R) : List (Int × Int) := rs.map dn
/-- the walk that turns the rule from b to a round -/
def ring (rs : List R) (k : Bool) (a b : Int) : Option (List Int) := if k = true then short (dns rs) a b else short (dns rs) b a
def arr1 (rs : List R) (k : Bool) (r : R) : List (Int × Int) := if r.1 = k then (r.2.1, r.2.2) :: (if (ring rs k r.2.2 r.2.1).isSome = true then [(r.2.2, r.2.1)] else []) else []
def arr (rs : List R) (k : Bool) : List (Int × Int) := rs.flatMap (arr1 rs k)
def fol (rs : List R) (r : R) : Bool := (short (arr rs r.1) r.2.1 r.2.2).isSome
/-- rules for a width, none twice -/
structure Ok (w : Int) (rs : List R) : Prop where
  nd : rs.Nodup
  lo : ∀ r ∈ rs, 0 ≤ r.2.1 ∧ r.2.1 < w ∧ 0 ≤ r.2.2 ∧ r.2.2 < w ∧ r.2.1 ≠ r.2.2
def cols (w : Int) : List Int := (List.range w.toNat).map fun (i : Nat) => (i : Int)
theorem mem_cols {w a : Int} : a ∈ cols w ↔ 0 ≤ a ∧ a < w := by
  unfold cols
  rw [List.mem_map]
  constructor
  · rintro ⟨i, hi, rfl⟩
    have := List.mem_range.mp hi
    omega
  · rintro ⟨h1, h2⟩
    exact ⟨a.toNat, List.mem_range.mpr (by omega), by omega⟩
/-- all rules of a kind, ascending -/
def allK (w : Int) (k : Bool) : List R := (cols w).flatMap fun a => ((cols w).filter fun b => !decide (a = b)).map fun b => (k, a, b)
def allR (w : Int) : List R := allK w true ++ allK w false
theorem mem_allK {w : Int} {k : Bool} {r : R} : r ∈ allK w k ↔ r.1 = k ∧ 0 ≤ r.2.1 ∧ r.2.1 < w ∧ 0 ≤ r.2.2 ∧ r.2.2 < w ∧ r.2.1 ≠ r.2.2 := by
  obtain ⟨j, a, b⟩ := r
  unfold allK
  rw [List.mem_flatMap]
  constructor
  · rintro ⟨a', ha, h⟩
    obtain ⟨b', hb, e⟩ := List.mem_map.mp h
    cases e
    obtain ⟨h1, h2⟩ := List.mem_filter.mp hb
    have h3 := mem_cols.mp ha
    have h4 := mem_cols.mp h1
    exact ⟨rfl, h3.1, h3.2, h4.1, h4.2, by simpa using h2⟩
  · rintro ⟨h0, h1, h2, h3, h4, h5⟩
    simp only at h0 h1 h2 h3 h4 h5
    subst h0
    exact ⟨a, mem_cols.mpr ⟨h1, h2⟩, List.mem_map.mpr ⟨b, List.mem_filter.mpr ⟨mem_cols.mpr ⟨h3, h4⟩, by simpa using h5⟩, rfl⟩⟩
theorem mem_allR {w : Int} {r : R} : r ∈ allR w ↔ 0 ≤ r.2.1 ∧ r.2.1 < w ∧ 0 ≤ r.2.2 ∧ r.2.2 < w ∧ r.2.1 ≠ r.2.2 := by
  unfold allR
  rw [List.mem_append, mem_allK, mem_allK]
  constructor
  · rintro (h | h) <;> exact h.2
  · intro h
    cases e : r.1 with
    | true => exact .inl ⟨rfl, h⟩
    | false => exact .inr ⟨rfl, h⟩
theorem Ok.up {w v : Int} {rs : List R} (h : Ok w rs) (hv : w ≤ v) : Ok v rs := ⟨h.nd, fun r hr => by have := h.lo r hr; omega⟩
theorem Ok.kind {w : Int} {rs : List R} (h : Ok w rs) (hw : w ≤ 6) (k : Bool) : (rs.filter fun r => r.1 == k).length ≤ 30 := by
  have h6 := h.up hw
  have := nodup_le (l := rs.filter fun r => r.1 == k) (m := allK 6 k) (h.nd.sublist List.filter_sublist) fun r hr => by
    obtain ⟨h1, h2⟩ := List.mem_filter.mp hr
    exact mem_allK.mpr ⟨by simpa using h2, h6.lo r h1⟩
  have e : (allK 6 k).length = 30 := by cases k <;> decide
  omega
theorem Ok.len {w : Int} {rs : List R} (h : Ok w rs) (hw : w ≤ 6) : rs.length ≤ 60 := by
  have := nodup_le (m := allR 6) h.nd fun r hr => mem_allR.mpr ((h.up hw).lo r hr)
  have e : (allR 6).length = 60 := by decide
  omega
theorem arr1_len (rs : List R) (k : Bool) (r : R) : (arr1 rs k r).length ≤ if r.1 == k then 2 else 0 := by
  unfold arr1
  by_cases h : r.1 = k
  · have e : (r.1 == k) = true := by simpa using h
    rw [if_pos h, e]
    split <;> simp
  · have e : (r.1 == k) = false := by simpa using h
    rw [if_neg h, e]
    simp
theorem arr_len_aux (rs : List R) (k : Bool) : ∀ l : List R, (l.flatMap (arr1 rs k)).length ≤ 2 * (l.filter fun r => r.1 == k).length
  | [] => by simp
  | r :: l => by
    have h1 := arr1_len rs k r
    have h2 := arr_len_aux rs k l
    rw [List.flatMap_cons, List.length_append, List.filter_cons]
    split
    · rename_i h
      rw [if_pos h] at h1
      rw [List.length_cons]
      omega
    · rename_i h
      rw [if_neg h] at h1
      omega
theorem arr_len (rs : List R) (k : Bool) : (arr rs k).length ≤ 2 * (rs.filter fun r => r.1 == k).length := arr_len_aux rs k rs
end Mt

/-! Plain mathematics: draws; ways by a table of ways. -/
namespace Mt
abbrev Pn := Int × Int × Int
def stir (a c : Int) : Int := ((a + 17 * c) * (69621 + 2 * c) % 2147483647 * ((a + 17 * c) * (69621 + 2 * c) % 2147483647) + 40503 * c + 5) % 2147483629
def drw (p : Pn) (m : Int) : Int × Pn :=
  if 0 < p.1 then (p.1 % m, (p.1 / m, p.2.1, p.2.2)) else (stir p.2.1 (p.2.2 + 1) * 48271 % 2147483647 / 32 % m, (p.1, p.2.1, p.2.2 + 1))
/-- a pen after at most k draws -/
def Nx (k : Int) (p q : Pn) : Prop := q.2.1 = p.2.1 ∧ p.2.2 ≤ q.2.2 ∧ q.2.2 ≤ p.2.2 + k
def Gd (b : Int) (p : Pn) : Prop := 0 ≤ p.2.1 ∧ p.2.1 < 1000000007 ∧ 0 ≤ p.2.2 ∧ p.2.2 ≤ b
theorem drw_lo (p : Pn) {m : Int} (h : 0 < m) : 0 ≤ (drw p m).1 ∧ (drw p m).1 < m := by
  unfold drw
  split
  · exact ⟨Int.emod_nonneg _ (by omega), Int.emod_lt_of_pos _ h⟩
  · exact ⟨Int.emod_nonneg _ (by omega), Int.emod_lt_of_pos _ h⟩
theorem drw_nx (p : Pn) (m : Int) : Nx 1 p (drw p m).2 := by
  unfold drw Nx
  split <;> simp <;> omega
theorem Nx.trans {j k : Int} {p q r : Pn} (h : Nx j p q) (h2 : Nx k q r) : Nx (j + k) p r := by
  unfold Nx at *
  omega
theorem Nx.refl (p : Pn) : Nx 0 p p := by unfold Nx; omega
theorem Nx.le {j k : Int} {p q : Pn} (h : Nx j p q) (hk : j ≤ k) : Nx k p q := by unfold Nx at *; omega
theorem Gd.nx {b c k : Int} {p q : Pn} (h : Gd b p) (hn : Nx k p q) (hc : b + k ≤ c) : Gd c q := by unfold Gd Nx at *; omega
theorem Gd.le {b c : Int} {p : Pn} (h : Gd b p) (hc : b ≤ c) : Gd c p := by unfold Gd at *; omega
theorem stir_lo (a c : Int) : 0 ≤ stir a c ∧ stir a c < 2147483629 := ⟨Int.emod_nonneg _ (by decide), Int.emod_lt_of_pos _ (by decide)⟩
def vR (w : Int) (r : R) : Prop := 0 ≤ r.2.1 ∧ r.2.1 < w ∧ 0 ≤ r.2.2 ∧ r.2.2 < w ∧ r.2.1 ≠ r.2.2

/-! ### the table of ways -/
def gt (M : List (List Bool)) (a b : Nat) : Bool := ((M.getD a []).getD b false)
def st (M : List (List Bool)) (a b : Nat) : List (List Bool) := M.set a ((M.getD a []).set b true)
def f3 (y a : Nat) (M : List (List Bool)) (b : Nat) : List (List Bool) := if (gt M a y && gt M y b) = true then st M a b else M
def f2 (w y : Nat) (M : List (List Bool)) (a : Nat) : List (List Bool) := (List.range w).foldl (f3 y a) M
def f1 (w : Nat) (M : List (List Bool)) (y : Nat) : List (List Bool) := (List.range w).foldl (f2 w y) M
def ini (w : Nat) (ps : List (Int × Int)) : List (List Bool) := (List.range w).map fun (a : Nat) => (List.range w).map fun (b : Nat) => decide ((a : Int) = (b : Int)) || decide (((a : Int), (b : Int)) ∈ ps)
def fw (w : Nat) (ps : List (Int × Int)) : List (List Bool) := (List.range w).foldl (f1 w) (ini w ps)
/-- a table of w rows of w -/
def Sq (w : Nat) (M : List (List Bool)) : Prop := M.length = w ∧ ∀ r ∈ M, r.length = w
theorem Sq.row {w : Nat} {M : List (List Bool)} (h : Sq w M) {a : Nat} (ha : a < w) : ∃ r, M[a]? = some r ∧ M.getD a [] = r ∧ r.length = w := by
  have hl : a < M.length := by rw [h.1]; exact ha
  refine ⟨M[a], List.getElem?_eq_getElem hl, ?_, h.2 _ (List.getElem_mem hl)⟩
  rw [List.getD_eq_getElem?_getD, List.getElem?_eq_getElem hl]; rfl
theorem Sq.st {w : Nat} {M : List (List Bool)} (h : Sq w M) {a : Nat} (ha : a < w) (b : Nat) : Sq w (st M a b) := by
  obtain ⟨r, h1, h2, h3⟩ := h.row ha
  unfold Mt.st
  rw [h2]
  refine ⟨by rw [List.length_set]; exact h.1, fun q hq => ?_⟩
  rcases List.mem_or_eq_of_mem_set hq with z | z
  · exact h.2 q z
  · rw [z, List.length_set]; exact h3
theorem gt_st {w : Nat} {M : List (List Bool)} (h : Sq w M) {a b c d : Nat} (ha : a < w) (hb : b < w) : gt (st M a b) c d = if c = a ∧ d = b then true else gt M c d := by
  obtain ⟨r, h1, h2, h3⟩ := h.row ha
  unfold gt st
  rw [h2]
  by_cases e : c = a
  · subst e
    have : (M.set c (r.set b true)).getD c [] = r.set b true := by
      rw [List.getD_eq_getElem?_getD, List.getElem?_set_self (by rw [h.1]; exact ha)]; rfl
    rw [this, h2]
    by_cases e2 : d = b
    · subst e2
      rw [if_pos ⟨rfl, rfl⟩, List.getD_eq_getElem?_getD, List.getElem?_set_self (by rw [h3]; exact hb)]; rfl
    · rw [if_neg (fun z => e2 z.2), List.getD_eq_getElem?_getD, List.getElem?_set_ne (Ne.symm e2), List.getD_eq_getElem?_getD]
  · rw [if_neg (fun z => e z.1)]
    have : (M.set a (r.set b true)).getD c [] = M.getD c [] := by
      rw [List.getD_eq_getElem?_getD, List.getElem?_set_ne (Ne.symm e), List.getD_eq_getElem?_getD]
    rw [this]
theorem sq_f3 {w y a : Nat} {M : List (List Bool)} (h : Sq w M) (ha : a < w) (b : Nat) : Sq w (f3 y a M b) := by
  unfold f3
  split
  · exact h.st ha b
  · exact h
theorem f3_mono {w y a : Nat} {M : List (List Bool)} (h : Sq w M) (ha : a < w) {b : Nat} (hb : b < w) {c d : Nat} (hg : gt M c d = true) : gt (f3 y a M b) c d = true := by
  unfold f3
  split
  · rw [gt_st h ha hb]
    split
    · rfl
    · exact hg
  · exact hg
theorem fold_keep {α : Type} {w : Nat} {f : List (List Bool) → α → List (List Bool)} (c d : Nat) : ∀ (l : List α) {M : List (List Bool)}, Sq w M → (∀ M x, x ∈ l → Sq w M → Sq w (f M x) ∧ (gt M c d = true → gt (f M x) c d = true)) → Sq w (l.foldl f M) ∧ (gt M c d = true → gt (l.foldl f M) c d = true)
  | [], _, h, _ => ⟨h, id⟩
  | x :: l, M, h, hf => by
    obtain ⟨a1, a2⟩ := hf M x (List.mem_cons_self ..) h
    obtain ⟨b1, b2⟩ := fold_keep c d l a1 fun M y hy => hf M y (List.mem_cons_of_mem _ hy)
    exact ⟨b1, fun z => b2 (a2 z)⟩
theorem keep_f2 {w y a : Nat} (ha : a < w) (c d : Nat) {M : List (List Bool)} (h : Sq w M) : Sq w (f2 w y M a) ∧ (gt M c d = true → gt (f2 w y M a) c d = true) :=
  fold_keep c d _ h fun M b hb hM => ⟨sq_f3 hM ha b, f3_mono hM ha (List.mem_range.mp hb)⟩
theorem keep_f1 {w y : Nat} (c d : Nat) {M : List (List Bool)} (h : Sq w M) : Sq w (f1 w M y) ∧ (gt M c d = true → gt (f1 w M y) c d = true) :=
  fold_keep c d _ h fun M a ha hM => keep_f2 (List.mem_range.mp ha) c d hM
/-- what a turn adds at least -/
theorem fold_hit {α : Type} {w : Nat} {f : List (List Bool) → α → List (List Bool)} {P : List (List Bool) → Prop} {c d : Nat} : ∀ (l : List α) {M : List (List Bool)} {x : α}, x ∈ l → Sq w M → P M → (∀ M x, x ∈ l → Sq w M → Sq w (f M x) ∧ (gt M c d = true → gt (f M x) c d = true) ∧ (P M → P (f M x))) → (∀ M, Sq w M → P M → gt (f M x) c d = true) → gt (l.foldl f M) c d = true
  | y :: l, M, x, hx, hM, hP, hf, hh => by
    obtain ⟨a1, a2, a3⟩ := hf M y (List.mem_cons_self ..) hM
    by_cases e : x = y
    · subst e
      exact (fold_keep c d l a1 fun M z hz hq => ⟨(hf M z (List.mem_cons_of_mem _ hz) hq).1, (hf M z (List.mem_cons_of_mem _ hz) hq).2.1⟩).2 (hh M hM hP)
    · have hx' : x ∈ l := by
        rcases List.mem_cons.mp hx with z | z
        · exact absurd z e
        · exact z
      exact fold_hit l hx' a1 (a3 hP) (fun M z hz hq => hf M z (List.mem_cons_of_mem _ hz) hq) hh
theorem f1_hit {w y a b : Nat} {M : List (List Bool)} (h : Sq w M) (ha : a < w) (hb : b < w) (h1 : gt M a y = true) (h2 : gt M y b = true) : gt (f1 w M y) a b = true := by
  refine fold_hit (P := fun M => gt M a y = true ∧ gt M y b = true) _ (List.mem_range.mpr ha) h ⟨h1, h2⟩ (fun M x hx hM => ⟨(keep_f2 (List.mem_range.mp hx) 0 0 hM).1, (keep_f2 (List.mem_range.mp hx) a b hM).2, fun hP => ⟨(keep_f2 (List.mem_range.mp hx) _ _ hM).2 hP.1, (keep_f2 (List.mem_range.mp hx) _ _ hM).2 hP.2⟩⟩) fun M hM hP => ?_
  refine fold_hit (P := fun M => gt M a y = true ∧ gt M y b = true) _ (List.mem_range.mpr hb) hM hP (fun M x hx hM => ⟨sq_f3 hM ha x, f3_mono hM ha (List.mem_range.mp hx), fun hP => ⟨f3_mono hM ha (List.mem_range.mp hx) hP.1, f3_mono hM ha (List.mem_range.mp hx) hP.2⟩⟩) fun M hM hP => ?_
  unfold f3
  rw [if_pos (by rw [hP.1, hP.2]; rfl), gt_st hM ha hb, if_pos ⟨rfl, rfl⟩]
theorem sq_ini (w : Nat) (ps : List (Int × Int)) : Sq w (ini w ps) := ⟨by simp [ini], fun r hr => by
  obtain ⟨a, _, rfl⟩ := List.mem_map.mp hr
  simp⟩
theorem gt_ini {w a b : Nat} (ps : List (Int × Int)) (ha : a < w) (hb : b < w) : gt (ini w ps) a b = (decide ((a : Int) = (b : Int)) || decide (((a : Int), (b : Int)) ∈ ps)) := by
  unfold gt ini
  rw [List.getD_eq_getElem?_getD (l := List.map _ _), List.getElem?_map, List.getElem?_range ha]
  simp only [Option.map_some, Option.getD_some]
  rw [List.getD_eq_getElem?_getD, List.getElem?_map, List.getElem?_range hb]
  rfl
/-- by way of columns below k -/
def Pth (ps : List (Int × Int)) : Nat → Nat → Nat → Prop
  | 0, a, b => a = b ∨ ((a : Int), (b : Int)) ∈ ps
  | k + 1, a, b => Pth ps k a b ∨ (Pth ps k a k ∧ Pth ps k k b)
theorem Pth.trans {ps : List (Int × Int)} : ∀ {k a b c : Nat}, c < k → Pth ps k a c → Pth ps k c b → Pth ps k a b
  | k + 1, a, b, c, hc, h1, h2 => by
    by_cases e : c = k
    · subst e
      have h1' : Pth ps c a c := h1.elim id (·.1)
      have h2' : Pth ps c c b := h2.elim id (·.2)
      exact .inr ⟨h1', h2'⟩
    · have hc' : c < k := by omega
      rcases h1 with h1 | ⟨h1, h1'⟩
      · rcases h2 with h2 | ⟨h2, h2'⟩
        · exact .inl (Pth.trans hc' h1 h2)
        · exact .inr ⟨Pth.trans hc' h1 h2, h2'⟩
      · rcases h2 with h2 | ⟨h2, h2'⟩
        · exact .inr ⟨h1, Pth.trans hc' h1' h2⟩
        · exact .inr ⟨h1, h2'⟩
theorem Pth.base {ps : List (Int × Int)} {a b : Nat} (h : a = b ∨ ((a : Int), (b : Int)) ∈ ps) : ∀ k, Pth ps k a b
  | 0 => h
  | k + 1 => .inl (Pth.base h k)
/-- all pairs in the width -/
def In (w : Nat) (ps : List (Int × Int)) : Prop := ∀ p ∈ ps, 0 ≤ p.1 ∧ p.1 < w ∧ 0 ≤ p.2 ∧ p.2 < w
theorem rch_pth {w : Nat} {ps : List (Int × Int)} (hin : In w ps) {a : Nat} (ha : a < w) {b : Int} (h : Rch ps (a : Int) b) : ∃ m : Nat, b = (m : Int) ∧ m < w ∧ Pth ps w a m := by
  induction h with
  | refl => exact ⟨a, rfl, ha, Pth.base (.inl rfl) w⟩
  | @step c d h1 h2 ih =>
    obtain ⟨m, rfl, hm, hp⟩ := ih
    have := hin _ h2
    have e : d = ((d.toNat : Nat) : Int) := by simp only at this; omega
    refine ⟨d.toNat, e, by simp only at this; omega, Pth.trans hm hp (Pth.base (.inr ?_) w)⟩
    rw [← e]; exact h2
theorem fw_part {w : Nat} (ps : List (Int × Int)) : ∀ k, k ≤ w → Sq w ((List.range k).foldl (f1 w) (ini w ps)) ∧ ∀ a b, a < w → b < w → Pth ps k a b → gt ((List.range k).foldl (f1 w) (ini w ps)) a b = true
  | 0, _ => ⟨sq_ini w ps, fun a b ha hb h => by
    show gt (ini w ps) a b = true
    rw [gt_ini ps ha hb]
    rcases h with h | h
    · rw [h]; simp
    · simp [h]⟩
  | k + 1, hk => by
    obtain ⟨h1, h2⟩ := fw_part (w := w) ps k (by omega)
    rw [List.range_succ, List.foldl_append]
    refine ⟨(keep_f1 0 0 h1).1, fun a b ha hb h => ?_⟩
    rcases h with h | ⟨h, h'⟩
    · exact (keep_f1 a b h1).2 (h2 a b ha hb h)
    · have hkw : k < w := by omega
      exact f1_hit h1 ha hb (h2 a k ha hkw h) (h2 k b hkw hb h')
theorem sound_f3 {ps : List (Int × Int)} {w y a : Nat} (ha : a < w) (hy : y < w) {M : List (List Bool)} (h : Sq w M) (hM : ∀ c d, c < w → d < w → gt M c d = true → Rch ps (c : Int) (d : Int)) {b : Nat} (hb : b < w) : ∀ c d, c < w → d < w → gt (f3 y a M b) c d = true → Rch ps (c : Int) (d : Int) := fun c d hc hd hg => by
  unfold f3 at hg
  split at hg
  · rename_i hk
    rw [gt_st h ha hb] at hg
    split at hg
    · rename_i e
      rw [Bool.and_eq_true] at hk
      rw [e.1, e.2]
      exact (hM a y ha hy hk.1).trans (hM y b hy hb hk.2)
    · exact hM c d hc hd hg
  · exact hM c d hc hd hg
theorem fold_inv {α : Type} {f : List (List Bool) → α → List (List Bool)} {P : List (List Bool) → Prop} : ∀ (l : List α) {M : List (List Bool)}, P M → (∀ M x, x ∈ l → P M → P (f M x)) → P (l.foldl f M)
  | [], _, h, _ => h
  | x :: l, M, h, hf => fold_inv l (hf M x (List.mem_cons_self ..) h) fun M y hy => hf M y (List.mem_cons_of_mem _ hy)
theorem sq_fw (w : Nat) (ps : List (Int × Int)) : Sq w (fw w ps) := (fw_part ps w (Nat.le_refl _)).1
theorem fw_rch {w : Nat} {ps : List (Int × Int)} (hin : In w ps) {a b : Nat} (ha : a < w) (hb : b < w) : gt (fw w ps) a b = true ↔ Rch ps (a : Int) (b : Int) := by
  constructor
  · have : Sq w (fw w ps) ∧ ∀ c d, c < w → d < w → gt (fw w ps) c d = true → Rch ps (c : Int) (d : Int) := by
      refine fold_inv (P := fun M => Sq w M ∧ ∀ c d, c < w → d < w → gt M c d = true → Rch ps (c : Int) (d : Int)) _ ⟨sq_ini w ps, fun c d hc hd hg => ?_⟩ fun M y hy hM => ?_
      · rw [gt_ini ps hc hd, Bool.or_eq_true, decide_eq_true_eq, decide_eq_true_eq] at hg
        rcases hg with hg | hg
        · rw [hg]; exact .refl
        · exact Rch.one hg
      · refine fold_inv (P := fun M => Sq w M ∧ ∀ c d, c < w → d < w → gt M c d = true → Rch ps (c : Int) (d : Int)) _ hM fun M a ha hM => ?_
        refine fold_inv (P := fun M => Sq w M ∧ ∀ c d, c < w → d < w → gt M c d = true → Rch ps (c : Int) (d : Int)) _ hM fun M b hb hM => ?_
        exact ⟨sq_f3 hM.1 (List.mem_range.mp ha) b, sound_f3 (List.mem_range.mp ha) (List.mem_range.mp hy) hM.1 hM.2 (List.mem_range.mp hb)⟩
    exact this.2 a b ha hb
  · intro h
    obtain ⟨m, e, hm, hp⟩ := rch_pth hin ha h
    have : b = m := by omega
    subst this
    exact (fw_part ps w (Nat.le_refl _)).2 a b ha hb hp
end Mt

/-! Plain mathematics: what follows, by tables of ways. -/
namespace Mt
def fnd (rs : List R) (k : Bool) : List (Int × Int) := (rs.filter fun r => decide (r.1 = k)).map fun r => (r.2.1, r.2.2)
def both (D : List (List Bool)) (p : Int × Int) : Bool := gt D p.1.toNat p.2.toNat && gt D p.2.toNat p.1.toNat
def prs (w : Nat) (rs : List R) (k : Bool) : List (Int × Int) := fnd rs k ++ ((fnd rs k).filter (both (fw w (dns rs)))).map fun p => (p.2, p.1)
def Vr (w : Int) (rs : List R) : Prop := ∀ r ∈ rs, vR w r
theorem Ok.vr {w : Int} {rs : List R} (h : Ok w rs) : Vr w rs := h.lo
theorem in_dns {w : Nat} {rs : List R} (h : Vr (w : Int) rs) : In w (dns rs) := fun p hp => by
  obtain ⟨r, hr, rfl⟩ := List.mem_map.mp hp
  have := h r hr
  unfold vR at this
  unfold dn
  split <;> (simp only; omega)
theorem mem_fnd {rs : List R} {k : Bool} {p : Int × Int} : p ∈ fnd rs k ↔ ∃ r ∈ rs, r.1 = k ∧ p = (r.2.1, r.2.2) := by
  unfold fnd
  rw [List.mem_map]
  constructor
  · rintro ⟨r, hr, rfl⟩
    obtain ⟨h1, h2⟩ := List.mem_filter.mp hr
    exact ⟨r, h1, of_decide_eq_true h2, rfl⟩
  · rintro ⟨r, h1, h2, rfl⟩
    exact ⟨r, List.mem_filter.mpr ⟨h1, decide_eq_true h2⟩, rfl⟩
theorem in_prs {w : Nat} {rs : List R} (h : Vr (w : Int) rs) (k : Bool) : In w (prs w rs k) := fun p hp => by
  unfold prs at hp
  rcases List.mem_append.mp hp with hp | hp
  · obtain ⟨r, hr, _, rfl⟩ := mem_fnd.mp hp
    have := h r hr
    unfold vR at this
    simp only
    omega
  · obtain ⟨q, hq, rfl⟩ := List.mem_map.mp hp
    obtain ⟨r, hr, _, rfl⟩ := mem_fnd.mp (List.mem_filter.mp hq).1
    have := h r hr
    unfold vR at this
    simp only
    omega
theorem dn_mem {rs : List R} {r : R} (h : r ∈ rs) : dn r ∈ dns rs := List.mem_map.mpr ⟨r, h, rfl⟩
theorem both_ring {w : Nat} {rs : List R} (h : Vr (w : Int) rs) {r : R} (hr : r ∈ rs) {k : Bool} (hk : r.1 = k) : both (fw w (dns rs)) (r.2.1, r.2.2) = (ring rs k r.2.2 r.2.1).isSome := by
  have hv := h r hr
  unfold vR at hv
  obtain ⟨a, ea⟩ : ∃ a : Nat, r.2.1 = (a : Int) := ⟨r.2.1.toNat, by omega⟩
  obtain ⟨b, eb⟩ : ∃ b : Nat, r.2.2 = (b : Int) := ⟨r.2.2.toNat, by omega⟩
  have ha : a < w := by omega
  have hb : b < w := by omega
  have hin := in_dns h
  have hm := dn_mem hr
  unfold dn at hm
  unfold both ring
  simp only
  rw [ea, eb, Int.toNat_natCast, Int.toNat_natCast, Bool.eq_iff_iff, Bool.and_eq_true, fw_rch hin ha hb, fw_rch hin hb ha]
  subst hk
  cases e : r.1 with
  | true =>
    rw [if_pos e, ea, eb] at hm
    rw [if_pos rfl, short_some]
    exact ⟨fun z => z.2, fun z => ⟨Rch.one hm, z⟩⟩
  | false =>
    rw [if_neg (by rw [e]; decide), ea, eb] at hm
    rw [if_neg (by decide), short_some]
    exact ⟨fun z => z.1, fun z => ⟨z, Rch.one hm⟩⟩
theorem mem_arr {rs : List R} {k : Bool} {p : Int × Int} : p ∈ arr rs k ↔ ∃ r ∈ rs, r.1 = k ∧ (p = (r.2.1, r.2.2) ∨ ((ring rs k r.2.2 r.2.1).isSome = true ∧ p = (r.2.2, r.2.1))) := by
  unfold arr
  rw [List.mem_flatMap]
  constructor
  · rintro ⟨r, hr, hp⟩
    unfold arr1 at hp
    split at hp
    · rename_i hk
      refine ⟨r, hr, hk, ?_⟩
      rcases List.mem_cons.mp hp with hp | hp
      · exact .inl hp
      · split at hp
        · rename_i hs
          exact .inr ⟨hs, List.mem_singleton.mp hp⟩
        · simp at hp
    · simp at hp
  · rintro ⟨r, hr, hk, hp⟩
    refine ⟨r, hr, ?_⟩
    unfold arr1
    rw [if_pos hk]
    rcases hp with rfl | ⟨hs, rfl⟩
    · exact List.mem_cons_self ..
    · rw [if_pos hs]
      exact List.mem_cons_of_mem _ (List.mem_singleton.mpr rfl)
theorem arr_prs {w : Nat} {rs : List R} (h : Vr (w : Int) rs) (k : Bool) (p : Int × Int) : p ∈ arr rs k ↔ p ∈ prs w rs k := by
  rw [mem_arr]
  unfold prs
  rw [List.mem_append, List.mem_map, mem_fnd]
  constructor
  · rintro ⟨r, hr, hk, hp | ⟨hs, hp⟩⟩
    · exact .inl ⟨r, hr, hk, hp⟩
    · refine .inr ⟨(r.2.1, r.2.2), List.mem_filter.mpr ⟨mem_fnd.mpr ⟨r, hr, hk, rfl⟩, ?_⟩, hp.symm⟩
      rw [both_ring h hr hk]; exact hs
  · rintro (⟨r, hr, hk, hp⟩ | ⟨q, hq, hp⟩)
    · exact ⟨r, hr, hk, .inl hp⟩
    · obtain ⟨h1, h2⟩ := List.mem_filter.mp hq
      obtain ⟨r, hr, hk, rfl⟩ := mem_fnd.mp h1
      rw [both_ring h hr hk] at h2
      exact ⟨r, hr, hk, .inr ⟨h2, hp.symm⟩⟩
theorem rch_arr {w : Nat} {rs : List R} (h : Vr (w : Int) rs) (k : Bool) (a b : Int) : Rch (arr rs k) a b ↔ Rch (prs w rs k) a b :=
  ⟨fun z => z.mono fun p hp => (arr_prs h k p).mp hp, fun z => z.mono fun p hp => (arr_prs h k p).mpr hp⟩
/-- the law's word for: it follows -/
def folT (w : Nat) (rs : List R) (r : R) : Bool := gt (fw w (prs w rs r.1)) r.2.1.toNat r.2.2.toNat
theorem folT_eq {w : Nat} {rs : List R} (h : Vr (w : Int) rs) {r : R} (hr : vR (w : Int) r) : folT w rs r = fol rs r := by
  unfold vR at hr
  obtain ⟨a, ea⟩ : ∃ a : Nat, r.2.1 = (a : Int) := ⟨r.2.1.toNat, by omega⟩
  obtain ⟨b, eb⟩ : ∃ b : Nat, r.2.2 = (b : Int) := ⟨r.2.2.toNat, by omega⟩
  unfold folT fol
  rw [Bool.eq_iff_iff, short_some, rch_arr h, ea, eb, Int.toNat_natCast, Int.toNat_natCast]
  exact fw_rch (in_prs h r.1) (by omega) (by omega)
def wo (kept : List R) (r : R) : List R := kept.filter fun o => !decide (o = r)
def dueS (w : Nat) (kept : List R) (r : R) : List R := if folT w (wo kept r) r = true then wo kept r else kept
def due (w : Nat) (rs : List R) : List R := rs.reverse.foldl (dueS w) rs
def leS (kept : List R) (r : R) : List R := if fol (wo kept r) r = true then wo kept r else kept
theorem due_fold {w : Nat} : ∀ (l kept : List R), Vr (w : Int) kept → (∀ r ∈ l, vR (w : Int) r) → l.foldl (dueS w) kept = l.foldl leS kept ∧ Vr (w : Int) (l.foldl leS kept)
  | [], _, hk, _ => ⟨rfl, hk⟩
  | r :: l, kept, hk, hl => by
    have hr := hl r (List.mem_cons_self ..)
    have hwo : Vr (w : Int) (wo kept r) := fun x hx => hk x (List.mem_filter.mp hx).1
    have e : dueS w kept r = leS kept r := by unfold dueS leS; rw [folT_eq hwo hr]
    have hn : Vr (w : Int) (leS kept r) := by
      unfold leS
      split
      · exact hwo
      · exact hk
    rw [List.foldl_cons, List.foldl_cons, e]
    exact due_fold l _ hn fun x hx => hl x (List.mem_cons_of_mem _ hx)
theorem due_eq {w : Nat} {rs : List R} (h : Vr (w : Int) rs) : due w rs = rs.reverse.foldl leS rs := (due_fold rs.reverse rs h fun r hr => h r (List.mem_reverse.mp hr)).1
theorem prs_len {w : Nat} {rs : List R} (h : Ok (w : Int) rs) (hw : w ≤ 6) (k : Bool) : (prs w rs k).length ≤ 60 := by
  have h1 : (fnd rs k).length ≤ 30 := by
    unfold fnd
    rw [List.length_map]
    have := h.kind (by omega) k
    have e : (rs.filter fun r => decide (r.1 = k)) = rs.filter fun r => r.1 == k := rfl
    rw [e]; exact this
  unfold prs
  rw [List.length_append, List.length_map]
  have := List.length_filter_le (both (fw w (dns rs))) (fnd rs k)
  omega
end Mt

/-! What follows from what follows. -/
namespace Mt
/-- a step down in the sense of a kind -/
def Dw (ps : List (Int × Int)) (k : Bool) (a b : Int) : Prop := if k = true then Rch ps a b else Rch ps b a
theorem Dw.trans {ps : List (Int × Int)} {k : Bool} {a b c : Int} (h : Dw ps k a b) (h2 : Dw ps k b c) : Dw ps k a c := by
  unfold Dw at *
  cases k with
  | true => exact Rch.trans (by simpa using h) (by simpa using h2)
  | false => exact Rch.trans (by simpa using h2) (by simpa using h)
theorem Dw.refl {ps : List (Int × Int)} {k : Bool} {a : Int} : Dw ps k a a := by
  unfold Dw
  cases k <;> exact .refl
theorem ring_dw {rs : List R} {k : Bool} {a b : Int} : (ring rs k a b).isSome = true ↔ Dw (dns rs) k a b := by
  unfold ring Dw
  cases k <;> simp [short_some]
theorem dw_given {rs : List R} {r : R} (h : r ∈ rs) : Dw (dns rs) r.1 r.2.1 r.2.2 := by
  have hm := dn_mem h
  unfold dn at hm
  unfold Dw
  split
  · rename_i e
    rw [if_pos e] at hm
    exact Rch.one hm
  · rename_i e
    rw [if_neg e] at hm
    exact Rch.one hm
theorem dw_arr {rs : List R} {k : Bool} {p : Int × Int} (h : p ∈ arr rs k) : Dw (dns rs) k p.1 p.2 := by
  obtain ⟨r, hr, hk, e | ⟨hg, e⟩⟩ := mem_arr.mp h
  · subst hk e
    exact dw_given hr
  · subst e
    exact ring_dw.mp hg
theorem dw_rch {rs : List R} {k : Bool} {a b : Int} (h : Rch (arr rs k) a b) : Dw (dns rs) k a b := by
  induction h with
  | refl => exact Dw.refl
  | step h1 h2 ih => exact ih.trans (dw_arr h2)
theorem arr_back {rs : List R} {k : Bool} {a b : Int} (h : (a, b) ∈ arr rs k) (hb : Dw (dns rs) k b a) : (b, a) ∈ arr rs k := by
  obtain ⟨r, hr, hk, e | ⟨hg, e⟩⟩ := mem_arr.mp h
  · injection e with e1 e2
    refine mem_arr.mpr ⟨r, hr, hk, .inr ⟨?_, by rw [e1, e2]⟩⟩
    rw [ring_dw, ← e1, ← e2]
    exact hb
  · injection e with e1 e2
    exact mem_arr.mpr ⟨r, hr, hk, .inl (by rw [e1, e2])⟩
theorem rch_back {rs : List R} {k : Bool} {a b : Int} (h : Rch (arr rs k) a b) : Dw (dns rs) k b a → Rch (arr rs k) b a := by
  induction h with
  | refl => exact fun _ => .refl
  | step h1 h2 ih =>
    intro hb
    have d1 := dw_rch h1
    have d2 := dw_arr h2
    have e1 := arr_back h2 (hb.trans d1)
    exact (Rch.one e1).trans (ih (d2.trans hb))
section
variable {rs F : List R}
/-- given rules and more that follow from them -/
structure Cl (rs F : List R) : Prop where
  sub : ∀ r ∈ rs, r ∈ F
  fol : ∀ r ∈ F, Rch (arr rs r.1) r.2.1 r.2.2
theorem dns_mono (h : ∀ r ∈ rs, r ∈ F) {a b : Int} (q : Rch (dns rs) a b) : Rch (dns F) a b := q.mono fun p hp => by
  obtain ⟨r, hr, rfl⟩ := List.mem_map.mp hp
  exact dn_mem (h r hr)
theorem dw_mono (h : ∀ r ∈ rs, r ∈ F) {k : Bool} {a b : Int} (q : Dw (dns rs) k a b) : Dw (dns F) k a b := by
  unfold Dw at *
  split
  · rename_i e; rw [if_pos e] at q; exact dns_mono h q
  · rename_i e; rw [if_neg e] at q; exact dns_mono h q
theorem arr_mono (h : ∀ r ∈ rs, r ∈ F) {k : Bool} {p : Int × Int} (q : p ∈ arr rs k) : p ∈ arr F k := by
  obtain ⟨r, hr, hk, e | ⟨hg, e⟩⟩ := mem_arr.mp q
  · exact mem_arr.mpr ⟨r, h r hr, hk, .inl e⟩
  · exact mem_arr.mpr ⟨r, h r hr, hk, .inr ⟨ring_dw.mpr (dw_mono h (ring_dw.mp hg)), e⟩⟩
theorem fol_iff {r : R} : fol rs r = true ↔ Rch (arr rs r.1) r.2.1 r.2.2 := short_some _ _ _
theorem fol_mono (h : ∀ r ∈ rs, r ∈ F) {r : R} (q : fol rs r = true) : fol F r = true := fol_iff.mpr ((fol_iff.mp q).mono fun p hp => arr_mono h hp)
theorem fol_given {r : R} (h : r ∈ rs) : fol rs r = true := fol_iff.mpr (Rch.one (mem_arr.mpr ⟨r, h, rfl, .inl rfl⟩))
theorem Cl.dns (c : Cl rs F) {a b : Int} : Rch (dns F) a b ↔ Rch (dns rs) a b := by
  refine ⟨fun h => ?_, dns_mono c.sub⟩
  induction h with
  | refl => exact .refl
  | step h1 h2 ih =>
    obtain ⟨r, hr, e⟩ := List.mem_map.mp h2
    have d := dw_rch (c.fol r hr)
    unfold Dw at d
    unfold dn at e
    split at e
    · rename_i hk
      injection e with e1 e2
      rw [if_pos hk, e1, e2] at d
      exact ih.trans d
    · rename_i hk
      injection e with e1 e2
      rw [if_neg hk, e1, e2] at d
      exact ih.trans d
theorem Cl.dw (c : Cl rs F) {k : Bool} {a b : Int} : Dw (Mt.dns F) k a b ↔ Dw (Mt.dns rs) k a b := by
  unfold Dw
  split <;> exact c.dns
theorem Cl.arr (c : Cl rs F) {k : Bool} {a b : Int} : Rch (arr F k) a b ↔ Rch (arr rs k) a b := by
  refine ⟨fun h => ?_, fun h => h.mono fun p hp => arr_mono c.sub hp⟩
  induction h with
  | refl => exact .refl
  | step h1 h2 ih =>
    obtain ⟨r, hr, hk, e | ⟨hg, e⟩⟩ := mem_arr.mp h2
    · injection e with e1 e2
      have := c.fol r hr
      rw [hk, ← e1, ← e2] at this
      exact ih.trans this
    · injection e with e1 e2
      have h3 := c.fol r hr
      rw [hk] at h3
      have := rch_back h3 (c.dw.mp (ring_dw.mp hg))
      rw [← e1, ← e2] at this
      exact ih.trans this
theorem Cl.fol_eq (c : Cl rs F) (r : R) : Mt.fol F r = Mt.fol rs r := by
  rw [Bool.eq_iff_iff, fol_iff, fol_iff]
  exact c.arr
end
end Mt

/-! Other columns, other kinds; how long a walk is. -/
namespace Mt
/-- pairs sent along -/
def Img (f : Int → Int) (ps qs : List (Int × Int)) : Prop := ∀ x y, (x, y) ∈ qs ↔ ∃ c d, (c, d) ∈ ps ∧ x = f c ∧ y = f d
structure InjOn (f : Int → Int) (w : Int) : Prop where
  inj : ∀ a b, 0 ≤ a → a < w → 0 ≤ b → b < w → f a = f b → a = b
  lo : ∀ a, 0 ≤ a → a < w → 0 ≤ f a ∧ f a < w
def InI (w : Int) (ps : List (Int × Int)) : Prop := ∀ p ∈ ps, 0 ≤ p.1 ∧ p.1 < w ∧ 0 ≤ p.2 ∧ p.2 < w
section
variable {f : Int → Int} {w : Int} {ps qs : List (Int × Int)}
theorem rch_lo (hin : InI w ps) {a b : Int} (h : Rch ps a b) (ha : 0 ≤ a ∧ a < w) : 0 ≤ b ∧ b < w := by
  induction h with
  | refl => exact ha
  | step _ h2 _ =>
    have := hin _ h2
    exact ⟨this.2.2.1, this.2.2.2⟩
theorem img_rch (hf : InjOn f w) (hin : InI w ps) (hi : Img f ps qs) {a b : Int} (ha : 0 ≤ a ∧ a < w) (hb : 0 ≤ b ∧ b < w) : Rch qs (f a) (f b) ↔ Rch ps a b := by
  constructor
  · intro h
    have : ∀ y, Rch qs (f a) y → ∃ c, (0 ≤ c ∧ c < w) ∧ y = f c ∧ Rch ps a c := by
      intro y h
      induction h with
      | refl => exact ⟨a, ha, rfl, .refl⟩
      | step _ h2 ih =>
        obtain ⟨c, hc, e1, h3⟩ := ih
        obtain ⟨c', d, hm, e2, e3⟩ := (hi _ _).mp h2
        have hl := hin _ hm
        have e4 : c = c' := hf.inj _ _ hc.1 hc.2 hl.1 hl.2.1 (e1.symm.trans e2)
        subst e4
        exact ⟨d, ⟨hl.2.2.1, hl.2.2.2⟩, e3, .step h3 hm⟩
    obtain ⟨c, hc, e, h2⟩ := this _ h
    rw [hf.inj _ _ hb.1 hb.2 hc.1 hc.2 e]
    exact h2
  · intro h
    induction h with
    | refl => exact .refl
    | step h1 h2 ih =>
      have hl := hin _ h2
      exact .step (ih ⟨hl.1, hl.2.1⟩) ((hi _ _).mpr ⟨_, _, h2, rfl, rfl⟩)
end
def ren (f : Int → Int) (r : R) : R := (r.1, f r.2.1, f r.2.2)
theorem dn_ren (f : Int → Int) (r : R) : dn (ren f r) = (f (dn r).1, f (dn r).2) := by
  unfold dn ren
  split <;> rfl
theorem in_dnsI {w : Int} {rs : List R} (h : Vr w rs) : InI w (dns rs) := fun p hp => by
  obtain ⟨r, hr, rfl⟩ := List.mem_map.mp hp
  have := h r hr
  unfold vR at this
  unfold dn
  split <;> simp only <;> omega
theorem in_arr {w : Int} {rs : List R} (h : Vr w rs) (k : Bool) : InI w (arr rs k) := fun p hp => by
  obtain ⟨r, hr, _, e | ⟨_, e⟩⟩ := mem_arr.mp hp
  · have := h r hr
    unfold vR at this
    subst e
    simp only
    omega
  · have := h r hr
    unfold vR at this
    subst e
    simp only
    omega
section
variable {f : Int → Int} {w : Int} {rs : List R}
theorem img_dns (f : Int → Int) (rs : List R) : Img f (dns rs) (dns (rs.map (ren f))) := fun x y => by
  unfold dns
  rw [List.map_map, List.mem_map]
  constructor
  · rintro ⟨r, hr, e⟩
    have e2 : dn (ren f r) = (x, y) := e
    rw [dn_ren] at e2
    injection e2 with e2 e3
    exact ⟨(dn r).1, (dn r).2, List.mem_map.mpr ⟨r, hr, rfl⟩, e2.symm, e3.symm⟩
  · rintro ⟨c, d, hm, rfl, rfl⟩
    obtain ⟨r, hr, e⟩ := List.mem_map.mp hm
    refine ⟨r, hr, ?_⟩
    show dn (ren f r) = _
    rw [dn_ren, e]
theorem dw_ren (hf : InjOn f w) (h : Vr w rs) {k : Bool} {a b : Int} (ha : 0 ≤ a ∧ a < w) (hb : 0 ≤ b ∧ b < w) : Dw (dns (rs.map (ren f))) k (f a) (f b) ↔ Dw (dns rs) k a b := by
  unfold Dw
  split
  · exact img_rch hf (in_dnsI h) (img_dns f rs) ha hb
  · exact img_rch hf (in_dnsI h) (img_dns f rs) hb ha
theorem img_arr (hf : InjOn f w) (h : Vr w rs) (k : Bool) : Img f (arr rs k) (arr (rs.map (ren f)) k) := fun x y => by
  constructor
  · intro hm
    obtain ⟨r', hr', hk, hc⟩ := mem_arr.mp hm
    obtain ⟨r, hr, rfl⟩ := List.mem_map.mp hr'
    have hv := h r hr
    unfold vR at hv
    rcases hc with e | ⟨hg, e⟩
    · injection e with e1 e2
      exact ⟨r.2.1, r.2.2, mem_arr.mpr ⟨r, hr, hk, .inl rfl⟩, e1, e2⟩
    · injection e with e1 e2
      refine ⟨r.2.2, r.2.1, mem_arr.mpr ⟨r, hr, hk, .inr ⟨ring_dw.mpr ?_, rfl⟩⟩, e1, e2⟩
      exact (dw_ren hf h (by omega) (by omega)).mp (ring_dw.mp hg)
  · rintro ⟨c, d, hm, rfl, rfl⟩
    obtain ⟨r, hr, hk, hc⟩ := mem_arr.mp hm
    have hv := h r hr
    unfold vR at hv
    refine mem_arr.mpr ⟨ren f r, List.mem_map.mpr ⟨r, hr, rfl⟩, hk, ?_⟩
    rcases hc with e | ⟨hg, e⟩
    · injection e with e1 e2
      exact .inl (by rw [e1, e2]; rfl)
    · injection e with e1 e2
      exact .inr ⟨ring_dw.mpr ((dw_ren hf h (by omega) (by omega)).mpr (ring_dw.mp hg)), by rw [e1, e2]; rfl⟩
theorem fol_ren (hf : InjOn f w) (h : Vr w rs) {r : R} (hr : vR w r) : fol (rs.map (ren f)) (ren f r) = fol rs r := by
  unfold vR at hr
  rw [Bool.eq_iff_iff, fol_iff, fol_iff]
  exact img_rch hf (in_arr h r.1) (img_arr hf h r.1) (by omega) (by omega)
end
/-! ### kinds exchanged -/
def oth (r : R) : R := (!r.1, r.2.2, r.2.1)
theorem oth_oth (r : R) : oth (oth r) = r := by
  obtain ⟨k, a, b⟩ := r
  cases k <;> rfl
theorem dns_oth (rs : List R) : dns (rs.map oth) = dns rs := by
  unfold dns
  rw [List.map_map]
  refine List.map_congr_left fun r _ => ?_
  obtain ⟨k, a, b⟩ := r
  cases k <;> rfl
theorem ring_oth (rs : List R) (k : Bool) (a b : Int) : ring (rs.map oth) (!k) b a = ring rs k a b := by
  unfold ring
  rw [dns_oth]
  cases k <;> rfl
theorem arr_oth {rs : List R} {k : Bool} {x y : Int} : (x, y) ∈ arr (rs.map oth) (!k) ↔ (y, x) ∈ arr rs k := by
  constructor
  · intro hm
    obtain ⟨r', hr', hk, hc⟩ := mem_arr.mp hm
    obtain ⟨r, hr, rfl⟩ := List.mem_map.mp hr'
    have hk2 : r.1 = k := by
      have : (!r.1) = !k := hk
      cases h1 : r.1 <;> cases k <;> rw [h1] at this <;> first | rfl | cases this
    rcases hc with e | ⟨hg, e⟩
    · injection e with e1 e2
      exact mem_arr.mpr ⟨r, hr, hk2, .inl (by rw [e1, e2]; rfl)⟩
    · injection e with e1 e2
      refine mem_arr.mpr ⟨r, hr, hk2, .inr ⟨?_, by rw [e1, e2]; rfl⟩⟩
      have h3 : (ring (rs.map oth) (!k) r.2.1 r.2.2).isSome = true := hg
      rw [ring_oth] at h3
      exact h3
  · intro hm
    obtain ⟨r, hr, hk, hc⟩ := mem_arr.mp hm
    refine mem_arr.mpr ⟨oth r, List.mem_map.mpr ⟨r, hr, rfl⟩, by show (!r.1) = _; rw [hk], ?_⟩
    rcases hc with e | ⟨hg, e⟩
    · injection e with e1 e2
      exact .inl (by rw [e1, e2]; rfl)
    · injection e with e1 e2
      refine .inr ⟨?_, by rw [e1, e2]; rfl⟩
      show (ring (rs.map oth) (!k) r.2.1 r.2.2).isSome = true
      rw [ring_oth]
      exact hg
theorem rch_rev {ps qs : List (Int × Int)} (h : ∀ x y, (x, y) ∈ ps → (y, x) ∈ qs) {a b : Int} (q : Rch ps a b) : Rch qs b a := by
  induction q with
  | refl => exact .refl
  | step _ h2 ih => exact (Rch.one (h _ _ h2)).trans ih
theorem fol_oth (rs : List R) (r : R) : fol (rs.map oth) (oth r) = fol rs r := by
  rw [Bool.eq_iff_iff, fol_iff, fol_iff]
  constructor
  · intro h
    exact rch_rev (fun x y hm => arr_oth.mp hm) h
  · intro h
    exact rch_rev (fun x y hm => arr_oth.mpr hm) h
/-! ### how long a walk is, and where it goes -/
theorem level_len {ps : List (Int × Int)} {ws : List (List Int)} {had : List Int} {n : Nat} (h : ∀ v ∈ ws, v.length ≤ n) : ∀ v ∈ (level ps ws had).1, v.length ≤ n + 1 := by
  unfold level
  refine foldl_keep (f := stepW ps) (Q := fun s => ∀ v ∈ s.1, v.length ≤ n + 1) (by intro v hv; cases hv) fun s v hv hs => ?_
  unfold stepW
  refine foldl_keep (f := stepC v) (Q := fun s => ∀ v ∈ s.1, v.length ≤ n + 1) hs fun s c hc hs => ?_
  unfold stepC
  split
  · exact hs
  · intro u hu
    rcases List.mem_append.mp hu with z | z
    · exact hs u z
    · rw [List.mem_singleton.mp z, List.length_append]
      have := h v hv
      show _ + 1 ≤ _
      omega
theorem run_len {ps : List (Int × Int)} {b : Int} : ∀ {m : Nat} {ws : List (List Int)} {had : List Int} {n : Nat} {w : List Int}, (∀ v ∈ ws, v.length ≤ n) → run ps b m ws had = some (some w) → w.length ≤ n + m
  | 0, _, _, _, _, _, h => by cases h
  | m + 1, ws, had, n, w, hn, h => by
    unfold run at h
    split at h
    · cases h
    · split at h
      · rename_i v e
        cases h
        have := hn _ (List.mem_of_find?_eq_some e)
        omega
      · have := run_len (level_len hn) h
        omega
theorem short_len {ps : List (Int × Int)} {a b : Int} {w : List Int} (h : short ps a b = some w) : w.length ≤ ps.length + 4 := by
  have := short_run ps a b
  rw [h] at this
  have := run_len (n := 1) (by intro v hv; rw [List.mem_singleton.mp hv]; exact Nat.le_refl _) this
  omega
theorem wlk_mem {ps : List (Int × Int)} {a b : Int} {w : List Int} (h : Wlk ps a w b) : ∀ x ∈ w, x = a ∨ ∃ p ∈ ps, p.2 = x := by
  induction h with
  | one => intro x hx; exact .inl (List.mem_singleton.mp hx)
  | more _ h2 ih =>
    intro x hx
    rcases List.mem_append.mp hx with z | z
    · exact ih x z
    · rw [List.mem_singleton.mp z]
      exact .inr ⟨_, h2, rfl⟩
end Mt

/-! The walk that is found is the shortest, and the first of these. -/
namespace Mt
def lexL : List Int → List Int → Bool
  | [], [] => false
  | [], _ :: _ => true
  | _ :: _, [] => false
  | x :: xs, y :: ys => if x = y then lexL xs ys else decide (x < y)
theorem lexL_irr : ∀ x : List Int, lexL x x = false
  | [] => rfl
  | x :: xs => by
    show (if x = x then lexL xs xs else _) = false
    rw [if_pos rfl]; exact lexL_irr xs
theorem lexL_tri : ∀ x y : List Int, x ≠ y → lexL x y = !lexL y x
  | [], [], h => absurd rfl h
  | [], _ :: _, _ => rfl
  | _ :: _, [], _ => rfl
  | x :: xs, y :: ys, h => by
    show (if x = y then lexL xs ys else decide (x < y)) = !(if y = x then lexL ys xs else decide (y < x))
    by_cases e : x = y
    · subst e
      rw [if_pos rfl, if_pos rfl]
      exact lexL_tri xs ys fun z => h (by rw [z])
    · rw [if_neg e, if_neg (Ne.symm e)]
      by_cases l : x < y
      · rw [decide_eq_true l, decide_eq_false (by omega)]; rfl
      · rw [decide_eq_false l, decide_eq_true (by omega)]; rfl
theorem lexL_tr : ∀ {x y z : List Int}, lexL x y = true → lexL y z = true → lexL x z = true
  | _, [], [], _, h2 => by cases h2
  | _, _ :: _, [], _, h2 => by cases h2
  | [], _, _ :: _, _, _ => rfl
  | _ :: _, [], _ :: _, h1, _ => by cases h1
  | x :: xs, y :: ys, z :: zs, h1, h2 => by
    have a1 : (if x = y then lexL xs ys else decide (x < y)) = true := h1
    have a2 : (if y = z then lexL ys zs else decide (y < z)) = true := h2
    show (if x = z then lexL xs zs else decide (x < z)) = true
    by_cases e1 : x = y
    · subst e1
      rw [if_pos rfl] at a1
      by_cases e2 : x = z
      · subst e2
        rw [if_pos rfl] at a2 ⊢
        exact lexL_tr a1 a2
      · rw [if_neg e2] at a2 ⊢
        exact a2
    · rw [if_neg e1] at a1
      have b1 := of_decide_eq_true a1
      by_cases e2 : y = z
      · subst e2
        rw [if_neg e1]
        exact a1
      · rw [if_neg e2] at a2
        have b2 := of_decide_eq_true a2
        rw [if_neg (by omega)]
        exact decide_eq_true (by omega)
/-- one step more, the walks of one length -/
theorem lexL_snoc : ∀ {v u : List Int} {c d : Int}, v.length = u.length → (lexL v u = true ∨ (v = u ∧ c < d)) → lexL (v ++ [c]) (u ++ [d]) = true
  | [], [], c, d, _, h => by
    rcases h with h | ⟨_, h⟩
    · cases h
    · show (if c = d then lexL [] [] else decide (c < d)) = true
      rw [if_neg (by omega)]
      exact decide_eq_true h
  | [], _ :: _, _, _, h, _ => by cases h
  | _ :: _, [], _, _, h, _ => by cases h
  | x :: xs, y :: ys, c, d, hl, h => by
    show (if x = y then lexL (xs ++ [c]) (ys ++ [d]) else decide (x < y)) = true
    have hl' : xs.length = ys.length := by simpa using hl
    by_cases e : x = y
    · rw [if_pos e]
      refine lexL_snoc hl' ?_
      rcases h with h | ⟨h1, h2⟩
      · have h' : (if x = y then lexL xs ys else decide (x < y)) = true := h
        rw [if_pos e] at h'
        exact .inl h'
      · injection h1 with _ h1
        exact .inr ⟨h1, h2⟩
    · rw [if_neg e]
      rcases h with h | ⟨h1, _⟩
      · have h' : (if x = y then lexL xs ys else decide (x < y)) = true := h
        rw [if_neg e] at h'
        exact h'
      · injection h1 with h1 _
        exact absurd h1 e
section
variable {ps : List (Int × Int)} {a : Int}
theorem wlk_one {u : List Int} {c : Int} (h : Wlk ps a u c) : 1 ≤ u.length ∧ (u.length = 1 → u = [a] ∧ c = a) := by
  cases h with
  | one => exact ⟨Nat.le_refl _, fun _ => ⟨rfl, rfl⟩⟩
  | more h1 h2 =>
    have : 1 ≤ (‹List Int› : List Int).length := by
      rename_i w d
      cases h1 with
      | one => exact Nat.le_refl _
      | more _ _ => rw [List.length_append]; show 1 ≤ _ + 1; omega
    rw [List.length_append]
    refine ⟨by show 1 ≤ _ + 1; omega, fun h => ?_⟩
    have h' : _ + 1 = 1 := h
    omega
theorem wlk_more {u : List Int} {c : Int} (h : Wlk ps a u c) (hl : 1 < u.length) : ∃ v d, u = v ++ [c] ∧ Wlk ps a v d ∧ (d, c) ∈ ps := by
  cases h with
  | one => exact absurd hl (Nat.lt_irrefl 1)
  | more h1 h2 => exact ⟨_, _, rfl, h1, h2⟩
/-- what stands at a level -/
structure BI (ps : List (Int × Int)) (a : Int) (n : Nat) (ws : List (List Int)) (hs : List Int) : Prop where
  pos : 1 ≤ n
  len : ∀ v ∈ ws, v.length = n
  wlk : ∀ v ∈ ws, Wlk ps a v (v.getLastD 0)
  asc : ws.Pairwise fun v u => lexL v u = true
  best : ∀ v ∈ ws, ∀ u, Wlk ps a u (v.getLastD 0) → n < u.length ∨ (u.length = n ∧ (u = v ∨ lexL v u = true))
  had : ∀ c, c ∈ hs ↔ ∃ u, Wlk ps a u c ∧ u.length ≤ n
  cov : ∀ c u, Wlk ps a u c → u.length = n → (∀ u', Wlk ps a u' c → n ≤ u'.length) → ∃ v ∈ ws, v.getLastD 0 = c
  nd : ∀ v ∈ ws, v.Nodup ∧ ∀ x ∈ v, x ∈ hs
theorem bi_start (ps : List (Int × Int)) (a : Int) : BI ps a 1 [[a]] [a] where
  pos := Nat.le_refl _
  len := fun v hv => by rw [List.mem_singleton.mp hv]; rfl
  wlk := fun v hv => by rw [List.mem_singleton.mp hv]; exact .one
  asc := List.pairwise_singleton _ _
  best := fun v hv u hu => by
    rw [List.mem_singleton.mp hv] at hu ⊢
    have h := wlk_one hu
    by_cases e : u.length = 1
    · exact .inr ⟨e, .inl (h.2 e).1⟩
    · exact .inl (by omega)
  had := fun c => by
    rw [List.mem_singleton]
    constructor
    · rintro rfl
      exact ⟨[c], .one, Nat.le_refl _⟩
    · rintro ⟨u, hu, hl⟩
      have h := wlk_one hu
      exact (h.2 (by omega)).2
  cov := fun c u hu hl _ => ⟨[a], by simp, by rw [((wlk_one hu).2 hl).2]; rfl⟩
  nd := fun v hv => by rw [List.mem_singleton.mp hv]; simp
/-- the pairs in the order in which they are tried -/
def tries (ps : List (Int × Int)) (ws : List (List Int)) : List (List Int × Int) := ws.flatMap fun v => (srt (endsAt ps (v.getLastD 0))).map fun c => (v, c)
theorem mem_tries {ws : List (List Int)} {v : List Int} {c : Int} : (v, c) ∈ tries ps ws ↔ v ∈ ws ∧ (v.getLastD 0, c) ∈ ps := by
  unfold tries
  rw [List.mem_flatMap]
  constructor
  · rintro ⟨u, hu, h⟩
    obtain ⟨d, hd, e⟩ := List.mem_map.mp h
    injection e with e1 e2
    subst e1 e2
    exact ⟨hu, endsAt_mem.mp (mem_srt.mp hd)⟩
  · rintro ⟨h1, h2⟩
    exact ⟨v, h1, List.mem_map.mpr ⟨c, mem_srt.mpr (endsAt_mem.mpr h2), rfl⟩⟩
def Bef (p q : List Int × Int) : Prop := lexL p.1 q.1 = true ∨ (p.1 = q.1 ∧ p.2 < q.2)
theorem tries_asc {ws : List (List Int)} (h : ws.Pairwise fun v u => lexL v u = true) : (tries ps ws).Pairwise Bef := by
  unfold tries
  induction ws with
  | nil => exact List.Pairwise.nil
  | cons v ws ih =>
    have hp := List.pairwise_cons.mp h
    rw [List.flatMap_cons]
    refine List.pairwise_append.mpr ⟨?_, ih hp.2, fun p hp1 q hq => ?_⟩
    · exact List.pairwise_map.mpr ((srt_sorted _).imp fun h => .inr ⟨rfl, h⟩)
    · obtain ⟨c, _, rfl⟩ := List.mem_map.mp hp1
      obtain ⟨u, hu, h2⟩ := List.mem_flatMap.mp hq
      obtain ⟨d, _, rfl⟩ := List.mem_map.mp h2
      exact .inl (hp.1 u hu)
theorem level_tries (ps : List (Int × Int)) (ws : List (List Int)) (had : List Int) : level ps ws had = (tries ps ws).foldl (fun s p => stepC p.1 s p.2) ([], had) := by
  unfold level tries
  rw [List.foldl_flatMap]
  congr 1
  funext s v
  unfold stepW
  rw [List.foldl_map]
structure FI (had : List Int) (pre : List (List Int × Int)) (s : List (List Int) × List Int) : Prop where
  h1 : ∀ c, c ∈ s.2 ↔ c ∈ had ∨ ∃ v, (v, c) ∈ pre
  h2 : ∀ x ∈ s.1, ∃ v c, (v, c) ∈ pre ∧ x = v ++ [c] ∧ c ∉ had ∧ ∀ v', (v', c) ∈ pre → v' = v ∨ lexL v v' = true
  h3 : ∀ v c, (v, c) ∈ pre → c ∉ had → ∃ x ∈ s.1, x.getLastD 0 = c
  h4 : s.1.Pairwise fun v u => lexL v u = true
theorem FI.step {n : Nat} {had : List Int} {pre : List (List Int × Int)} {s : List (List Int) × List Int} {v : List Int} {c : Int} (h : FI had pre s) (hb : ∀ p ∈ pre, Bef p (v, c)) (hn : ∀ p ∈ pre, p.1.length = n) (hv : v.length = n) : FI had (pre ++ [(v, c)]) (stepC v s c) := by
  have mem : ∀ {u : List Int} {d : Int}, (u, d) ∈ pre ++ [(v, c)] ↔ (u, d) ∈ pre ∨ (u = v ∧ d = c) := fun {u d} => by
    rw [List.mem_append, List.mem_singleton]
    constructor
    · rintro (z | z)
      · exact .inl z
      · injection z with z1 z2; exact .inr ⟨z1, z2⟩
    · rintro (z | ⟨rfl, rfl⟩)
      · exact .inl z
      · exact .inr rfl
  by_cases hc : c ∈ s.2
  · rw [stepC_no (by simpa using hc)]
    refine ⟨fun d => ?_, fun x hx => ?_, fun u d hu hd => ?_, h.h4⟩
    · rw [h.h1]
      constructor
      · rintro (z | ⟨u, z⟩)
        · exact .inl z
        · exact .inr ⟨u, mem.mpr (.inl z)⟩
      · rintro (z | ⟨u, z⟩)
        · exact .inl z
        · rcases mem.mp z with z | ⟨_, rfl⟩
          · exact .inr ⟨u, z⟩
          · exact (h.h1 d).mp hc
    · obtain ⟨u, d, h5, h6, h7, h8⟩ := h.h2 x hx
      refine ⟨u, d, mem.mpr (.inl h5), h6, h7, fun v' hv' => ?_⟩
      rcases mem.mp hv' with z | ⟨rfl, rfl⟩
      · exact h8 v' z
      · rcases hb _ h5 with z | ⟨z, z2⟩
        · exact .inr z
        · exact .inl z.symm
    · rcases mem.mp hu with z | ⟨rfl, rfl⟩
      · exact h.h3 u d z hd
      · rcases (h.h1 d).mp hc with z | ⟨u', z⟩
        · exact absurd z hd
        · exact h.h3 u' d z hd
  · rw [stepC_yes (by simpa using hc)]
    have hch : c ∉ had := fun z => hc ((h.h1 c).mpr (.inl z))
    have hcp : ∀ u, (u, c) ∉ pre := fun u z => hc ((h.h1 c).mpr (.inr ⟨u, z⟩))
    refine ⟨fun d => ?_, fun x hx => ?_, fun u d hu hd => ?_, ?_⟩
    · show d ∈ s.2 ++ [c] ↔ _
      rw [List.mem_append, List.mem_singleton, h.h1]
      constructor
      · rintro ((z | ⟨u, z⟩) | rfl)
        · exact .inl z
        · exact .inr ⟨u, mem.mpr (.inl z)⟩
        · exact .inr ⟨v, mem.mpr (.inr ⟨rfl, rfl⟩)⟩
      · rintro (z | ⟨u, z⟩)
        · exact .inl (.inl z)
        · rcases mem.mp z with z | ⟨_, rfl⟩
          · exact .inl (.inr ⟨u, z⟩)
          · exact .inr rfl
    · rcases List.mem_append.mp (show x ∈ s.1 ++ [v ++ [c]] from hx) with z | z
      · obtain ⟨u, d, h5, h6, h7, h8⟩ := h.h2 x z
        refine ⟨u, d, mem.mpr (.inl h5), h6, h7, fun v' hv' => ?_⟩
        rcases mem.mp hv' with y | ⟨_, rfl⟩
        · exact h8 v' y
        · exact absurd h5 (hcp u)
      · rw [List.mem_singleton.mp z]
        refine ⟨v, c, mem.mpr (.inr ⟨rfl, rfl⟩), rfl, hch, fun v' hv' => ?_⟩
        rcases mem.mp hv' with y | ⟨rfl, _⟩
        · exact absurd y (hcp v')
        · exact .inl rfl
    · rcases mem.mp hu with z | ⟨rfl, rfl⟩
      · obtain ⟨x, h5, h6⟩ := h.h3 u d z hd
        exact ⟨x, List.mem_append_left _ h5, h6⟩
      · exact ⟨_, List.mem_append_right _ (List.mem_singleton.mpr rfl), getLastD_append _ _⟩
    · show (s.1 ++ [v ++ [c]]).Pairwise _
      refine List.pairwise_append.mpr ⟨h.h4, List.pairwise_singleton _ _, fun x hx y hy => ?_⟩
      rw [List.mem_singleton.mp hy]
      obtain ⟨u, d, h5, rfl, _, _⟩ := h.h2 x hx
      exact lexL_snoc ((hn _ h5).trans hv.symm) (hb _ h5)
theorem FI.all {n : Nat} {had : List Int} : ∀ (l pre : List (List Int × Int)) (s : List (List Int) × List Int), (pre ++ l).Pairwise Bef → (∀ p ∈ pre ++ l, p.1.length = n) → FI had pre s → FI had (pre ++ l) (l.foldl (fun s p => stepC p.1 s p.2) s)
  | [], pre, s, _, _, h => by rw [List.append_nil]; exact h
  | (v, c) :: l, pre, s, hp, hn, h => by
    have e : pre ++ (v, c) :: l = (pre ++ [(v, c)]) ++ l := by simp
    rw [e] at hp hn ⊢
    have hb : ∀ p ∈ pre, Bef p (v, c) := fun p hpp => (List.pairwise_append.mp (List.pairwise_append.mp hp).1).2.2 p hpp (v, c) (List.mem_singleton.mpr rfl)
    exact FI.all l (pre ++ [(v, c)]) _ hp hn (h.step (n := n) hb (fun p hpp => hn p (List.mem_append_left _ (List.mem_append_left _ hpp))) (hn (v, c) (List.mem_append_left _ (List.mem_append_right _ (List.mem_singleton.mpr rfl)))))
theorem BI.level {n : Nat} {ws : List (List Int)} {had : List Int} (h : BI ps a n ws had) : BI ps a (n + 1) (level ps ws had).1 (level ps ws had).2 := by
  have fi : FI had (tries ps ws) (Mt.level ps ws had) := by
    rw [level_tries]
    have := FI.all (n := n) (had := had) (tries ps ws) [] ([], had) (by rw [List.nil_append]; exact tries_asc h.asc) (fun p hp => by
      rw [List.nil_append] at hp
      exact h.len p.1 (mem_tries.mp (show (p.1, p.2) ∈ tries ps ws from hp)).1) ⟨fun c => by simp, (fun x hx => by cases hx), (fun v c hv => by cases hv), List.Pairwise.nil⟩
    rw [List.nil_append] at this
    exact this
  generalize Mt.level ps ws had = s at fi
  -- a walk of the next length, its last column not had before
  have last : ∀ c u, Wlk ps a u c → u.length = n + 1 → c ∉ had → ∃ v' d v'', u = v' ++ [c] ∧ Wlk ps a v' d ∧ (d, c) ∈ ps ∧ v''∈ ws ∧ v''.getLastD 0 = d ∧ (v' = v'' ∨ lexL v'' v' = true) ∧ (v'', c) ∈ tries ps ws := fun c u hu hl hc => by
    obtain ⟨v', d, rfl, h1, h2⟩ := wlk_more hu (by have := h.pos; omega)
    have hl' : v'.length = n := by
      rw [List.length_append] at hl
      have : v'.length + 1 = n + 1 := hl
      omega
    have hmin : ∀ u', Wlk ps a u' d → n ≤ u'.length := fun u' hu' => by
      refine Nat.le_of_not_lt fun z => hc ((h.had c).mpr ⟨u' ++ [c], .more hu' h2, ?_⟩)
      rw [List.length_append]
      show u'.length + 1 ≤ n
      omega
    obtain ⟨v'', h3, h4⟩ := h.cov d v' h1 hl' hmin
    have h5 := h.best v'' h3 v' (by rw [h4]; exact h1)
    refine ⟨v', d, v'', rfl, h1, h2, h3, h4, ?_, mem_tries.mpr ⟨h3, by rw [h4]; exact h2⟩⟩
    rcases h5 with z | ⟨_, z⟩
    · omega
    · exact z
  have hadS : ∀ c, c ∈ s.2 ↔ ∃ u, Wlk ps a u c ∧ u.length ≤ n + 1 := fun c => by
    rw [fi.h1]
    constructor
    · rintro (z | ⟨v, z⟩)
      · obtain ⟨u, hu, hl⟩ := (h.had c).mp z
        exact ⟨u, hu, by omega⟩
      · obtain ⟨h1, h2⟩ := mem_tries.mp z
        refine ⟨v ++ [c], .more (h.wlk v h1) h2, ?_⟩
        rw [List.length_append, h.len v h1]
        exact Nat.le_refl _
    · rintro ⟨u, hu, hl⟩
      by_cases hc : c ∈ had
      · exact .inl hc
      · have : u.length = n + 1 := by
          have : ¬ u.length ≤ n := fun z => hc ((h.had c).mpr ⟨u, hu, z⟩)
          omega
        obtain ⟨_, _, v'', _, _, _, _, _, _, z⟩ := last c u hu this hc
        exact .inr ⟨v'', z⟩
  refine ⟨by omega, fun x hx => ?_, fun x hx => ?_, fi.h4, fun x hx u hu => ?_, hadS, fun c u hu hl hmin => ?_, fun x hx => ?_⟩
  · obtain ⟨v, c, h5, rfl, _, _⟩ := fi.h2 x hx
    rw [List.length_append, h.len v (mem_tries.mp h5).1]
    rfl
  · obtain ⟨v, c, h5, rfl, _, _⟩ := fi.h2 x hx
    rw [getLastD_append]
    obtain ⟨h1, h2⟩ := mem_tries.mp h5
    exact .more (h.wlk v h1) h2
  · obtain ⟨v, c, h5, rfl, hc, h8⟩ := fi.h2 x hx
    rw [getLastD_append] at hu
    have hn : ¬ u.length ≤ n := fun z => hc ((h.had c).mpr ⟨u, hu, z⟩)
    by_cases e : u.length = n + 1
    · refine .inr ⟨e, ?_⟩
      obtain ⟨v', d, v'', rfl, h1, h2, h3, h4, h6, h7⟩ := last c u hu e hc
      have hlv : v.length = n := h.len v (mem_tries.mp h5).1
      have hlv' : v'.length = n := by
        rw [List.length_append] at e
        have : v'.length + 1 = n + 1 := e
        omega
      have le : v' = v ∨ lexL v v' = true := by
        rcases h8 v'' h7 with rfl | z
        · exact h6
        · rcases h6 with rfl | y
          · exact .inr z
          · exact .inr (lexL_tr z y)
      rcases le with rfl | z
      · exact .inl rfl
      · exact .inr (lexL_snoc (hlv.trans hlv'.symm) (.inl z))
    · exact .inl (by omega)
  · have hc : c ∉ had := fun z => by
      obtain ⟨u', hu', hl'⟩ := (h.had c).mp z
      have := hmin u' hu'
      omega
    obtain ⟨_, _, v'', _, _, _, _, _, _, z⟩ := last c u hu hl hc
    exact fi.h3 v'' c z hc
  · obtain ⟨v, c, h5, rfl, hc, _⟩ := fi.h2 x hx
    obtain ⟨n1, n2⟩ := h.nd v (mem_tries.mp h5).1
    refine ⟨List.nodup_append.mpr ⟨n1, by simp, fun y hy z hz e => ?_⟩, fun y hy => ?_⟩
    · rw [List.mem_singleton] at hz
      exact hc (by rw [← hz, ← e]; exact n2 y hy)
    · rcases List.mem_append.mp hy with z | z
      · exact (fi.h1 y).mpr (.inl (n2 y z))
      · rw [List.mem_singleton.mp z]
        exact (fi.h1 c).mpr (.inr ⟨v, h5⟩)
/-- the best walk -/
structure Best (ps : List (Int × Int)) (a b : Int) (w : List Int) : Prop where
  wlk : Wlk ps a w b
  nd : w.Nodup
  least : ∀ u, Wlk ps a u b → w.length < u.length ∨ (u.length = w.length ∧ (u = w ∨ lexL w u = true))
theorem run_best {b : Int} : ∀ {m n : Nat} {ws : List (List Int)} {had : List Int} {w : List Int}, BI ps a n ws had → run ps b m ws had = some (some w) → Best ps a b w
  | 0, _, _, _, _, _, h => by cases h
  | m + 1, n, ws, had, w, hB, h => by
    unfold run at h
    split at h
    · cases h
    · split at h
      · rename_i v e
        cases h
        have hm := List.mem_of_find?_eq_some e
        have hl : w.getLastD 0 = b := by simpa using List.find?_some e
        have hw := hB.wlk w hm
        have hb := hB.best w hm
        rw [hl] at hw hb
        refine ⟨hw, (hB.nd w hm).1, fun u hu => ?_⟩
        rw [hB.len w hm]
        exact hb u hu
      · exact run_best hB.level h
theorem short_best {b : Int} {w : List Int} (h : short ps a b = some w) : Best ps a b w := by
  have := short_run ps a b
  rw [h] at this
  exact run_best (bi_start ps a) this
theorem Best.uniq {b : Int} {w v : List Int} (h : Best ps a b w) (h2 : Best ps a b v) : w = v := by
  rcases h.least v h2.wlk with z | ⟨z, z2⟩
  · rcases h2.least w h.wlk with y | ⟨y, _⟩ <;> omega
  · rcases z2 with z2 | z2
    · exact z2.symm
    · rcases h2.least w h.wlk with y | ⟨_, y⟩
      · omega
      · rcases y with y | y
        · exact y
        · by_cases e : w = v
          · exact e
          · have := lexL_tri w v e
            rw [z2, y] at this
            cases this
/-- the walk that is found depends on the pairs alone, not on their order -/
theorem short_same {qs : List (Int × Int)} (hs : ∀ p, p ∈ ps ↔ p ∈ qs) (b : Int) : short ps a b = short qs a b := by
  have mono : ∀ {ps qs : List (Int × Int)} {w : List Int} {c : Int}, (∀ p, p ∈ ps → p ∈ qs) → Wlk ps a w c → Wlk qs a w c := fun {ps qs w c} h hw => by
    induction hw with
    | one => exact .one
    | more _ h2 ih => exact .more ih (h _ h2)
  cases e : short ps a b with
  | none =>
    cases e2 : short qs a b with
    | none => rfl
    | some v =>
      exact absurd ((mono (fun p hp => (hs p).mpr hp) (short_best e2).wlk).rch) ((short_spec ps a b).2 e)
  | some w =>
    cases e2 : short qs a b with
    | none => exact absurd ((mono (fun p hp => (hs p).mp hp) (short_best e).wlk).rch) ((short_spec qs a b).2 e2)
    | some v =>
      have h1 := short_best e
      have h2 := short_best e2
      have h3 : Best qs a b w := ⟨mono (fun p hp => (hs p).mp hp) h1.wlk, h1.nd, fun u hu => h1.least u (mono (fun p hp => (hs p).mpr hp) hu)⟩
      rw [h3.uniq h2]
end
end Mt

/-! Plain mathematics: the walk found among all tuples of different columns. -/
namespace Mt
def colN (w : Nat) : List Int := (List.range w).map fun (i : Nat) => (i : Int)
def exw (w : Nat) (o : List Int) : List (List Int) := ((colN w).filter fun x => !decide (x ∈ o)).map fun x => o ++ [x]
def lv (w : Nat) : Nat → List (List Int)
  | 0 => [[]]
  | n + 1 => (lv w n).flatMap (exw w)
def tupsN (w n : Nat) : List (List Int) := (List.range n).flatMap fun i => lv w (i + 1)
def Bft (t u : List Int) : Prop := t.length < u.length ∨ (t.length = u.length ∧ lexL t u = true)
theorem mem_colN {w : Nat} {x : Int} : x ∈ colN w ↔ 0 ≤ x ∧ x < (w : Int) := by
  unfold colN
  rw [List.mem_map]
  constructor
  · rintro ⟨i, hi, rfl⟩
    have := List.mem_range.mp hi
    omega
  · rintro ⟨h0, h1⟩
    exact ⟨x.toNat, List.mem_range.mpr (by omega), by omega⟩
theorem colN_asc (w : Nat) : (colN w).Pairwise (· < ·) := by
  unfold colN
  rw [List.pairwise_map]
  exact List.pairwise_lt_range.imp fun h => by omega
theorem mem_exw {w : Nat} {o u : List Int} : u ∈ exw w o ↔ ∃ x, u = o ++ [x] ∧ x ∉ o ∧ 0 ≤ x ∧ x < (w : Int) := by
  unfold exw
  rw [List.mem_map]
  constructor
  · rintro ⟨x, hx, rfl⟩
    obtain ⟨h1, h2⟩ := List.mem_filter.mp hx
    have h3 := mem_colN.mp h1
    exact ⟨x, rfl, by simpa using h2, h3.1, h3.2⟩
  · rintro ⟨x, rfl, h1, h2, h3⟩
    exact ⟨x, List.mem_filter.mpr ⟨mem_colN.mpr ⟨h2, h3⟩, by simpa using h1⟩, rfl⟩
theorem mem_lv {w : Nat} : ∀ {n : Nat} {u : List Int}, u ∈ lv w n ↔ u.length = n ∧ u.Nodup ∧ ∀ x ∈ u, 0 ≤ x ∧ x < (w : Int)
  | 0, u => by
    show u ∈ [[]] ↔ _
    rw [List.mem_singleton]
    constructor
    · rintro rfl
      exact ⟨rfl, List.nodup_nil, fun x hx => nomatch hx⟩
    · exact fun h => List.eq_nil_of_length_eq_zero h.1
  | n + 1, u => by
    show u ∈ (lv w n).flatMap (exw w) ↔ _
    rw [List.mem_flatMap]
    constructor
    · rintro ⟨o, ho, hu⟩
      obtain ⟨x, rfl, h1, h2, h3⟩ := mem_exw.mp hu
      obtain ⟨l, nd, all⟩ := mem_lv.mp ho
      refine ⟨by rw [List.length_append, l]; rfl, ?_, fun y hy => ?_⟩
      · rw [List.nodup_append]
        refine ⟨nd, by simp, fun a ha b hb e => ?_⟩
        rw [List.mem_singleton] at hb
        subst hb e
        exact h1 ha
      · rcases List.mem_append.mp hy with q | q
        · exact all y q
        · rw [List.mem_singleton.mp q]; exact ⟨h2, h3⟩
    · rintro ⟨l, nd, all⟩
      have hne : u ≠ [] := fun e => by rw [e] at l; cases l
      have e := List.dropLast_concat_getLast hne
      have l2 : u.dropLast.length = n := by rw [List.length_dropLast, l]; rfl
      rw [← e] at nd
      rw [List.nodup_append] at nd
      refine ⟨u.dropLast, mem_lv.mpr ⟨l2, nd.1, fun x hx => all x (((List.dropLast_sublist u).subset hx))⟩, mem_exw.mpr ⟨u.getLast hne, e.symm, fun hx => nd.2.2 _ hx _ (List.mem_singleton.mpr rfl) rfl, all _ (List.getLast_mem hne)⟩⟩
theorem lv_asc {w : Nat} : ∀ n : Nat, (lv w n).Pairwise fun v u => lexL v u = true
  | 0 => List.pairwise_singleton ..
  | n + 1 => by
    show ((lv w n).flatMap (exw w)).Pairwise _
    rw [List.pairwise_flatMap]
    refine ⟨fun o ho => ?_, ?_⟩
    · unfold exw
      rw [List.pairwise_map]
      exact ((colN_asc w).filter _).imp fun h => lexL_snoc rfl (.inr ⟨rfl, h⟩)
    · refine List.Pairwise.imp_of_mem (fun {v u} hv hu h => ?_) (lv_asc n)
      intro x hx y hy
      obtain ⟨c, rfl, _⟩ := mem_exw.mp hx
      obtain ⟨d, rfl, _⟩ := mem_exw.mp hy
      exact lexL_snoc ((mem_lv.mp hv).1.trans (mem_lv.mp hu).1.symm) (.inl h)
theorem mem_tups {w n : Nat} {u : List Int} : u ∈ tupsN w n ↔ 1 ≤ u.length ∧ u.length ≤ n ∧ u.Nodup ∧ ∀ x ∈ u, 0 ≤ x ∧ x < (w : Int) := by
  unfold tupsN
  rw [List.mem_flatMap]
  constructor
  · rintro ⟨i, hi, hu⟩
    obtain ⟨l, nd, all⟩ := mem_lv.mp hu
    have := List.mem_range.mp hi
    exact ⟨by omega, by omega, nd, all⟩
  · rintro ⟨h1, h2, nd, all⟩
    exact ⟨u.length - 1, List.mem_range.mpr (by omega), mem_lv.mpr ⟨by omega, nd, all⟩⟩
theorem tups_asc (w n : Nat) : (tupsN w n).Pairwise Bft := by
  unfold tupsN
  rw [List.pairwise_flatMap]
  refine ⟨fun i _ => ?_, ?_⟩
  · exact List.Pairwise.imp_of_mem (fun {v u} hv hu h => .inr ⟨(mem_lv.mp hv).1.trans (mem_lv.mp hu).1.symm, h⟩) (lv_asc (i + 1))
  · refine List.pairwise_lt_range.imp fun {i j} h x hx y hy => .inl ?_
    rw [(mem_lv.mp hx).1, (mem_lv.mp hy).1]
    omega
theorem tups_succ (w n : Nat) : tupsN w (n + 1) = tupsN w n ++ lv w (n + 1) := by
  unfold tupsN
  rw [List.range_succ, List.flatMap_append]
  simp
theorem len_flat {α β : Type} (f : α → List β) (m : Nat) : ∀ l : List α, (∀ x ∈ l, (f x).length ≤ m) → (l.flatMap f).length ≤ l.length * m
  | [], _ => by simp
  | x :: l, h => by
    rw [List.flatMap_cons, List.length_append, List.length_cons, Nat.succ_mul]
    have h1 := h x (List.mem_cons_self ..)
    have h2 := len_flat f m l fun y hy => h y (List.mem_cons_of_mem _ hy)
    omega
theorem lv_len {w : Nat} (hw : w ≤ 6) : ∀ n : Nat, (lv w n).length ≤ 6 ^ n
  | 0 => Nat.le_refl _
  | n + 1 => by
    show ((lv w n).flatMap (exw w)).length ≤ _
    have h := len_flat (exw w) 6 (lv w n) fun o _ => by
      unfold exw
      rw [List.length_map]
      have h1 := List.length_filter_le (fun x => !decide (x ∈ o)) (colN w)
      have h2 : (colN w).length = w := by unfold colN; rw [List.length_map, List.length_range]
      omega
    have h2 := lv_len hw n
    rw [Nat.pow_succ]
    exact Nat.le_trans h (Nat.mul_le_mul_right 6 h2)
theorem tups_len {w n : Nat} (hw : w ≤ 6) (hn : n ≤ 6) : (tupsN w n).length ≤ 300000 := by
  have h := len_flat (fun i => lv w (i + 1)) 46656 (List.range n) fun i hi => by
    have := List.mem_range.mp hi
    refine Nat.le_trans (lv_len hw (i + 1)) ?_
    show 6 ^ (i + 1) ≤ 6 ^ 6
    exact Nat.pow_le_pow_right (by decide) (by omega)
  unfold tupsN
  rw [List.length_range] at h
  have : n * 46656 ≤ 6 * 46656 := Nat.mul_le_mul_right _ hn
  omega
/-! ### the walk -/
def isW (ps : List (Int × Int)) (a b : Int) (u : List Int) : Bool := decide (u.head? = some a) && decide (u.getLast? = some b) && (u.zip u.tail).all fun p => decide (p ∈ ps)
theorem zip_snoc (d : Int) : ∀ (v : List Int) (h : v ≠ []), (v ++ [d]).zip (v ++ [d]).tail = v.zip v.tail ++ [(v.getLast h, d)]
  | [x], _ => rfl
  | x :: y :: r, _ => by
    have ih := zip_snoc d (y :: r) (by simp)
    show (x, y) :: ((y :: r) ++ [d]).zip ((y :: r) ++ [d]).tail = (x, y) :: ((y :: r).zip (y :: r).tail ++ [((x :: y :: r).getLast (by simp), d)])
    rw [ih]; rfl
theorem isW_wlk {ps : List (Int × Int)} {a b : Int} {u : List Int} (h : Wlk ps a u b) : isW ps a b u = true := by
  induction h with
  | one => simp [isW]
  | @more v c d h1 h2 ih =>
    unfold isW at ih ⊢
    rw [Bool.and_eq_true, Bool.and_eq_true, decide_eq_true_eq, decide_eq_true_eq] at ih ⊢
    obtain ⟨⟨i1, i2⟩, i3⟩ := ih
    have hne : v ≠ [] := fun e => by rw [e] at i1; cases i1
    refine ⟨⟨?_, by simp⟩, ?_⟩
    · rw [List.head?_append, i1]; rfl
    · rw [zip_snoc d v hne, List.all_append, i3]
      have e : v.getLast hne = c := by
        rw [List.getLast?_eq_some_getLast hne] at i2
        exact Option.some.inj i2
      simp [e, h2]
theorem wlk_isW {ps : List (Int × Int)} {a : Int} : ∀ (n : Nat) {b : Int} {u : List Int}, u.length = n → isW ps a b u = true → Wlk ps a u b
  | 0, b, u, l, h => by
    have : u = [] := List.eq_nil_of_length_eq_zero l
    subst this
    simp [isW] at h
  | n + 1, b, u, l, h => by
    have hne : u ≠ [] := fun e => by rw [e] at l; cases l
    have e := List.dropLast_concat_getLast hne
    unfold isW at h
    rw [Bool.and_eq_true, Bool.and_eq_true, decide_eq_true_eq, decide_eq_true_eq] at h
    obtain ⟨⟨i1, i2⟩, i3⟩ := h
    have eb : u.getLast hne = b := by
      rw [List.getLast?_eq_some_getLast hne] at i2
      exact Option.some.inj i2
    rw [eb] at e
    generalize hv : u.dropLast = v at e
    have lv' : v.length = n := by rw [← hv, List.length_dropLast, l]; rfl
    subst e
    by_cases hv0 : v = []
    · subst hv0
      have : a = b := by simpa using i1.symm
      subst this
      exact .one
    · rw [zip_snoc b v hv0, List.all_append, Bool.and_eq_true] at i3
      refine .more (wlk_isW n (b := v.getLast hv0) lv' ?_) (by simpa using i3.2)
      unfold isW
      rw [Bool.and_eq_true, Bool.and_eq_true, decide_eq_true_eq, decide_eq_true_eq]
      refine ⟨⟨?_, List.getLast?_eq_some_getLast hv0⟩, i3.1⟩
      rw [List.head?_append] at i1
      cases hh : v.head? with
      | none => exact absurd (List.head?_eq_none_iff.mp hh) hv0
      | some x => rw [hh] at i1; exact i1
theorem isW_iff {ps : List (Int × Int)} {a b : Int} {u : List Int} : isW ps a b u = true ↔ Wlk ps a u b := ⟨wlk_isW _ rfl, isW_wlk⟩
theorem fnd_short {ps : List (Int × Int)} {w : Nat} {a b : Int} (hp : ∀ p ∈ ps, 0 ≤ p.2 ∧ p.2 < (w : Int)) (ha : 0 ≤ a ∧ a < (w : Int)) : (tupsN w w).find? (isW ps a b) = short ps a b := by
  cases hs : short ps a b with
  | none =>
    rw [List.find?_eq_none]
    intro u _ hu
    exact (short_spec ps a b).2 hs (isW_iff.mp hu).rch
  | some v =>
    have hB := short_best hs
    have hr : ∀ x ∈ v, 0 ≤ x ∧ x < (w : Int) := fun x hx => by
      rcases wlk_mem hB.wlk x hx with rfl | ⟨p, hp1, rfl⟩
      · exact ha
      · exact hp p hp1
    have hl : v.length ≤ w := by
      have h1 : v.length ≤ (colN w).length := nodup_le hB.nd fun x hx => mem_colN.mpr (hr x hx)
      unfold colN at h1
      rw [List.length_map, List.length_range] at h1
      exact h1
    have hm : v ∈ tupsN w w := mem_tups.mpr ⟨(wlk_one hB.wlk).1, hl, hB.nd, hr⟩
    cases hf : (tupsN w w).find? (isW ps a b) with
    | none => exact absurd (isW_iff.mpr hB.wlk) (by simpa using List.find?_eq_none.mp hf v hm)
    | some t =>
      obtain ⟨ht, as, bs, e, hno⟩ := List.find?_eq_some_iff_append.mp hf
      have hle := hB.least t (isW_iff.mp ht)
      rw [e] at hm
      rcases List.mem_append.mp hm with q | q
      · exact absurd (isW_iff.mpr hB.wlk) (by simpa using hno v q)
      · rcases List.mem_cons.mp q with q | q
        · rw [q]
        · have pw := tups_asc w w
          rw [e, List.pairwise_append] at pw
          have := (List.pairwise_cons.mp pw.2.1).1 v q
          rcases this with h | ⟨h1, h2⟩
          · omega
          · rcases hle with h | ⟨_, h | h⟩
            · omega
            · rw [h]
            · have := lexL_tr h h2
              rw [lexL_irr] at this
              cases this
end Mt

/-! Plain mathematics: chains. -/
namespace Mt
abbrev Part := Int × Int × List Int
def partOf (rs : List R) (k : Bool) (a b : Int) : Part := if (k, a, b) ∈ rs then (a, b, []) else (a, b, (ring rs k a b).getD [])
def okPt (rs : List R) (k : Bool) (p : Part) : Bool := (decide (p.2.2 = []) && decide ((k, p.1, p.2.1) ∈ rs)) || (decide ((k, p.2.1, p.1) ∈ rs) && (if k = true then isW (dns rs) p.1 p.2.1 p.2.2 else isW (dns rs) p.2.1 p.1 p.2.2))
def lnk (at_ : Int) : List Part → Option Int
  | [] => some at_
  | p :: r => if p.1 = at_ then lnk p.2.1 r else none
def isCh (rs : List R) (r : R) (ch : List Part) : Bool := ch.all (okPt rs r.1) && (!ch.isEmpty && decide (lnk r.2.1 ch = some r.2.2))
def prt (rs : List R) (k : Bool) (way : List Int) : List Part := (way.zip way.tail).map fun p => partOf rs k p.1 p.2
def chainOf (rs : List R) (r : R) : List Part := prt rs r.1 ((short (arr rs r.1) r.2.1 r.2.2).getD [])
def inP (w : Int) (p : Part) : Prop := (0 ≤ p.1 ∧ p.1 < w) ∧ (0 ≤ p.2.1 ∧ p.2.1 < w) ∧ ∀ x ∈ p.2.2, 0 ≤ x ∧ x < w
section
variable {rs : List R} {k : Bool} {a b c w : Int}
theorem partOf_ends (a b : Int) : (partOf rs k a b).1 = a ∧ (partOf rs k a b).2.1 = b := by
  unfold partOf
  split <;> exact ⟨rfl, rfl⟩
theorem arr_two (h : (a, b) ∈ arr rs k) : (k, a, b) ∈ rs ∨ ((k, b, a) ∈ rs ∧ (ring rs k a b).isSome = true) := by
  obtain ⟨⟨k2, x, y⟩, hr, rfl, e | ⟨hg, e⟩⟩ := mem_arr.mp h
  · injection e with e1 e2
    subst e1 e2
    exact .inl hr
  · injection e with e1 e2
    subst e1 e2
    exact .inr ⟨hr, hg⟩
theorem okPt_of (h : (a, b) ∈ arr rs k) : okPt rs k (partOf rs k a b) = true := by
  by_cases hm : (k, a, b) ∈ rs
  · unfold partOf okPt
    rw [if_pos hm]
    simp [hm]
  · rcases arr_two h with h1 | ⟨h1, h2⟩
    · exact absurd h1 hm
    · unfold partOf okPt
      rw [if_neg hm]
      have hw : (if k = true then isW (dns rs) a b ((ring rs k a b).getD []) else isW (dns rs) b a ((ring rs k a b).getD [])) = true := by
        cases hr : ring rs k a b with
        | none => rw [hr] at h2; cases h2
        | some u =>
          unfold ring at hr
          cases k with
          | true =>
            rw [if_pos rfl] at hr ⊢
            exact isW_iff.mpr ((short_spec _ _ _).1 u hr)
          | false =>
            rw [if_neg (by decide)] at hr ⊢
            exact isW_iff.mpr ((short_spec _ _ _).1 u hr)
      show ((decide ((ring rs k a b).getD [] = []) && decide ((k, a, b) ∈ rs)) || (decide ((k, b, a) ∈ rs) && (if k = true then isW (dns rs) a b ((ring rs k a b).getD []) else isW (dns rs) b a ((ring rs k a b).getD [])))) = true
      rw [hw, decide_eq_true h1]
      simp
theorem lnk_app : ∀ (c1 c2 : List Part) (a : Int), lnk a (c1 ++ c2) = (lnk a c1).bind fun x => lnk x c2
  | [], c2, a => rfl
  | p :: c1, c2, a => by
    show (if p.1 = a then lnk p.2.1 (c1 ++ c2) else none) = (if p.1 = a then lnk p.2.1 c1 else none).bind _
    by_cases h : p.1 = a
    · rw [if_pos h, if_pos h, lnk_app]
    · rw [if_neg h, if_neg h]; rfl
theorem isCh_iff {r : R} {ch : List Part} : isCh rs r ch = true ↔ (∀ p ∈ ch, okPt rs r.1 p = true) ∧ ch ≠ [] ∧ lnk r.2.1 ch = some r.2.2 := by
  unfold isCh
  rw [Bool.and_eq_true, Bool.and_eq_true, List.all_eq_true, decide_eq_true_eq]
  constructor
  · rintro ⟨h1, h2, h3⟩
    exact ⟨h1, (fun e => by rw [e] at h2; cases h2), h3⟩
  · rintro ⟨h1, h2, h3⟩
    refine ⟨h1, ?_, h3⟩
    cases ch with
    | nil => exact absurd rfl h2
    | cons x y => rfl
theorem isCh_app {c1 c2 : List Part} (h1 : isCh rs (k, a, b) c1 = true) (h2 : isCh rs (k, b, c) c2 = true) : isCh rs (k, a, c) (c1 ++ c2) = true := by
  obtain ⟨p1, n1, l1⟩ := isCh_iff.mp h1
  obtain ⟨p2, n2, l2⟩ := isCh_iff.mp h2
  refine isCh_iff.mpr ⟨fun p hp => ?_, fun e => n1 (List.append_eq_nil_iff.mp e).1, ?_⟩
  · rcases List.mem_append.mp hp with h | h
    · exact p1 p h
    · exact p2 p h
  · show lnk a (c1 ++ c2) = some c
    rw [lnk_app, show lnk a c1 = some b from l1]
    exact l2
theorem lnk_start {p : Part} {ch : List Part} {e : Int} (h : lnk a (p :: ch) = some e) : p.1 = a := by
  by_cases h1 : p.1 = a
  · exact h1
  · unfold lnk at h
    rw [if_neg h1] at h
    cases h
theorem isCh_one {r s : R} {ch : List Part} (h : isCh rs r ch = true) (hs : isCh rs s ch = true) (hk : s.1 = r.1) : s = r := by
  obtain ⟨_, n1, l1⟩ := isCh_iff.mp h
  obtain ⟨_, n2, l2⟩ := isCh_iff.mp hs
  cases ch with
  | nil => exact absurd rfl n1
  | cons p ch =>
    have e1 := lnk_start l1
    have e2 := lnk_start l2
    have e3 : s.2.1 = r.2.1 := e2.symm.trans e1
    rw [e3, l1] at l2
    injection l2 with e4
    obtain ⟨k1, x1, y1⟩ := r
    obtain ⟨k2, x2, y2⟩ := s
    simp at hk e3 e4
    subst hk e3 e4
    rfl
theorem prt_cons (x y : Int) (r : List Int) : prt rs k (x :: y :: r) = partOf rs k x y :: prt rs k (y :: r) := rfl
theorem lnk_prt : ∀ (way : List Int) (h : way ≠ []), lnk (way.head h) (prt rs k way) = some (way.getLast h)
  | [x], _ => rfl
  | x :: y :: r, _ => by
    have ih := lnk_prt (y :: r) (by simp)
    rw [prt_cons]
    show (if (partOf rs k x y).1 = x then lnk (partOf rs k x y).2.1 (prt rs k (y :: r)) else none) = _
    rw [if_pos (partOf_ends x y).1, (partOf_ends x y).2]
    exact ih
theorem prt_len (way : List Int) : (prt rs k way).length = way.length - 1 := by
  unfold prt
  rw [List.length_map, List.length_zip, List.length_tail]
  omega
theorem wlk_ends {ps : List (Int × Int)} {u : List Int} (h : Wlk ps a u b) : ∃ hn : u ≠ [], u.head hn = a ∧ u.getLast hn = b := by
  have hw := isW_wlk h
  unfold isW at hw
  rw [Bool.and_eq_true, Bool.and_eq_true, decide_eq_true_eq, decide_eq_true_eq] at hw
  obtain ⟨⟨i1, i2⟩, _⟩ := hw
  have hn : u ≠ [] := fun e => by rw [e] at i1; cases i1
  refine ⟨hn, ?_, ?_⟩
  · rw [List.head?_eq_some_head hn] at i1
    exact Option.some.inj i1
  · rw [List.getLast?_eq_some_getLast hn] at i2
    exact Option.some.inj i2
theorem way_of {r : R} (h : fol rs r = true) : ∃ way, short (arr rs r.1) r.2.1 r.2.2 = some way ∧ chainOf rs r = prt rs r.1 way ∧ Best (arr rs r.1) r.2.1 r.2.2 way := by
  unfold fol at h
  cases e : short (arr rs r.1) r.2.1 r.2.2 with
  | none => rw [e] at h; cases h
  | some way => exact ⟨way, rfl, by unfold chainOf; rw [e]; rfl, short_best e⟩
/-- the chain of a rule shows it -/
theorem isCh_chain {r : R} (h : fol rs r = true) (hne : r.2.1 ≠ r.2.2) : isCh rs r (chainOf rs r) = true := by
  obtain ⟨way, e, ec, B⟩ := way_of h
  obtain ⟨hn, h1, h2⟩ := wlk_ends B.wlk
  rw [ec]
  have hl : lnk r.2.1 (prt rs r.1 way) = some r.2.2 := by
    have := lnk_prt (rs := rs) (k := r.1) way hn
    rw [h1, h2] at this
    exact this
  refine isCh_iff.mpr ⟨fun p hp => ?_, fun e0 => ?_, hl⟩
  · unfold prt at hp
    obtain ⟨q, hq, rfl⟩ := List.mem_map.mp hp
    have hw := isW_wlk B.wlk
    unfold isW at hw
    rw [Bool.and_eq_true, List.all_eq_true] at hw
    exact okPt_of (of_decide_eq_true (hw.2 q hq))
  · rw [e0] at hl
    exact hne (Option.some.inj hl)
/-- without one of its parts it is none -/
theorem lnk_out : ∀ (r : List Int) (x : Int) (i : Nat), (x :: r).Nodup → i < r.length → lnk x ((prt rs k (x :: r)).eraseIdx i) ≠ some ((x :: r).getLast (by simp)) ∨ (prt rs k (x :: r)).eraseIdx i = []
  | [], x, i, _, hi => by cases hi
  | y :: r, x, 0, nd, _ => by
    rw [prt_cons]
    show lnk x (prt rs k (y :: r)) ≠ _ ∨ prt rs k (y :: r) = []
    cases r with
    | nil => exact .inr rfl
    | cons z r =>
      left
      rw [prt_cons]
      show (if (partOf rs k y z).1 = x then _ else none) ≠ _
      rw [(partOf_ends y z).1, if_neg]
      · exact fun e => nomatch e
      · intro e
        rw [e] at nd
        simp at nd
  | y :: r, x, i + 1, nd, hi => by
    left
    rw [prt_cons]
    show (if (partOf rs k x y).1 = x then lnk (partOf rs k x y).2.1 ((prt rs k (y :: r)).eraseIdx i) else none) ≠ _
    rw [if_pos (partOf_ends x y).1, (partOf_ends x y).2]
    have hi' : i < r.length := by simp at hi; omega
    have nd' : (y :: r).Nodup := (List.nodup_cons.mp nd).2
    have el : (x :: y :: r).getLast (by simp) = (y :: r).getLast (by simp) := List.getLast_cons (by simp)
    rw [el]
    rcases lnk_out r y i nd' hi' with h | h
    · exact h
    · rw [h]
      intro e
      have e2 : y = (y :: r).getLast (by simp) := Option.some.inj e
      cases r with
      | nil => cases hi'
      | cons z r =>
        rw [List.getLast_cons (by simp)] at e2
        have hm := List.getLast_mem (l := z :: r) (by simp)
        rw [← e2] at hm
        exact (List.nodup_cons.mp nd').1 hm
theorem isCh_out {r : R} (h : fol rs r = true) {i : Nat} (hi : i < (chainOf rs r).length) : isCh rs r ((chainOf rs r).eraseIdx i) = false := by
  obtain ⟨way, e, ec, B⟩ := way_of h
  obtain ⟨hn, h1, h2⟩ := wlk_ends B.wlk
  rw [ec] at hi ⊢
  cases way with
  | nil => exact absurd rfl hn
  | cons x way =>
    rw [prt_len] at hi
    have e1 : x = r.2.1 := h1
    subst e1
    rcases lnk_out (rs := rs) (k := r.1) way r.2.1 i B.nd (by simpa using hi) with q | q
    · cases hb : isCh rs r ((prt rs r.1 (r.2.1 :: way)).eraseIdx i) with
      | false => rfl
      | true =>
        obtain ⟨_, _, l⟩ := isCh_iff.mp hb
        rw [h2] at q
        exact absurd l q
    · rw [q]
      unfold isCh
      simp
/-- the rule of two chains follows, and its chain is no longer -/
theorem wlk_app {ps : List (Int × Int)} {u v : List Int} (h1 : Wlk ps a u b) (h2 : Wlk ps b v c) : ∃ t, Wlk ps a t c ∧ t.length + 1 = u.length + v.length := by
  induction h2 with
  | one => exact ⟨u, h1, rfl⟩
  | more _ hp ih =>
    obtain ⟨t, ht, hl⟩ := ih
    refine ⟨_, .more ht hp, ?_⟩
    simp only [List.length_append, List.length_cons, List.length_nil]
    omega
theorem fol_two (h1 : fol rs (k, a, b) = true) (h2 : fol rs (k, b, c) = true) : fol rs (k, a, c) = true ∧ (chainOf rs (k, a, c)).length ≤ (chainOf rs (k, a, b)).length + (chainOf rs (k, b, c)).length := by
  have h3 : fol rs (k, a, c) = true := fol_iff.mpr ((fol_iff.mp h1).trans (fol_iff.mp h2))
  refine ⟨h3, ?_⟩
  obtain ⟨w1, _, e1, B1⟩ := way_of h1
  obtain ⟨w2, _, e2, B2⟩ := way_of h2
  obtain ⟨w3, _, e3, B3⟩ := way_of h3
  obtain ⟨t, ht, hl⟩ := wlk_app B1.wlk B2.wlk
  have l1 := (wlk_one B1.wlk).1
  have l2 := (wlk_one B2.wlk).1
  rw [e1, e2, e3, prt_len, prt_len, prt_len]
  rcases B3.least t ht with q | ⟨q, _⟩ <;> omega
theorem inP_chain {r : R} (h : Vr w rs) (hr : vR w r) : ∀ p ∈ chainOf rs r, inP w p := by
  intro p hp
  unfold chainOf at hp
  cases e : short (arr rs r.1) r.2.1 r.2.2 with
  | none => rw [e] at hp; cases hp
  | some way =>
    rw [e] at hp
    have hw := (short_spec _ _ _).1 way e
    have hin : ∀ x ∈ way, 0 ≤ x ∧ x < w := fun x hx => by
      rcases wlk_mem hw x hx with rfl | ⟨q, hq, rfl⟩
      · exact ⟨hr.1, hr.2.1⟩
      · have := in_arr h r.1 q hq
        omega
    unfold prt at hp
    obtain ⟨q, hq, rfl⟩ := List.mem_map.mp hp
    have hz := List.of_mem_zip (a := q.1) (b := q.2) hq
    have i1 := hin _ hz.1
    have i2 := hin _ (List.mem_of_mem_tail hz.2)
    refine ⟨by rw [(partOf_ends _ _).1]; exact i1, by rw [(partOf_ends _ _).2]; exact i2, ?_⟩
    unfold partOf
    split
    · exact fun x hx => nomatch hx
    · intro x hx
      have hx' : x ∈ (ring rs r.1 q.1 q.2).getD [] := hx
      cases er : ring rs r.1 q.1 q.2 with
      | none => rw [er] at hx'; cases hx'
      | some u =>
        rw [er] at hx'
        have hx2 : x ∈ u := hx'
        unfold ring at er
        have hd : ∀ {s t : Int}, (0 ≤ s ∧ s < w) → short (dns rs) s t = some u → 0 ≤ x ∧ x < w := fun hs he => by
          rcases wlk_mem ((short_spec _ _ _).1 u he) x hx2 with rfl | ⟨d, hd, rfl⟩
          · exact hs
          · have := in_dnsI h d hd
            omega
        split at er
        · exact hd i1 er
        · exact hd i2 er
end
end Mt

/-! Plain mathematics: rules in rows. -/
namespace Mt
def vat (x : List Int) (c : Int) : Int := x.getD c.toNat 0
def hld (rows : List (List Int)) (r : R) : Bool := if r.1 = true then rows.all fun x => rows.all fun y => !decide (vat x r.2.1 = vat y r.2.1) || decide (vat x r.2.2 = vat y r.2.2) else rows.all fun x => decide (vat x r.2.1 ∈ rows.map fun y => vat y r.2.2)
theorem hld_settles {rows : List (List Int)} {a b : Int} : hld rows (true, a, b) = true ↔ ∀ x ∈ rows, ∀ y ∈ rows, vat x a = vat y a → vat x b = vat y b := by
  unfold hld
  rw [if_pos rfl, List.all_eq_true]
  constructor
  · intro h x hx y hy e
    have := List.all_eq_true.mp (h x hx) y hy
    simpa [e] using this
  · intro h x hx
    rw [List.all_eq_true]
    intro y hy
    by_cases e : vat x a = vat y a
    · simp [e, h x hx y hy e]
    · simp [e]
theorem hld_within {rows : List (List Int)} {a b : Int} : hld rows (false, a, b) = true ↔ ∀ x ∈ rows, ∃ y ∈ rows, vat y b = vat x a := by
  unfold hld
  rw [if_neg (show ¬ ((false : Bool) = true) from Bool.false_ne_true), List.all_eq_true]
  constructor
  · intro h x hx
    have := of_decide_eq_true (h x hx)
    obtain ⟨y, hy, e⟩ := List.mem_map.mp this
    exact ⟨y, hy, e⟩
  · intro h x hx
    obtain ⟨y, hy, e⟩ := h x hx
    exact decide_eq_true (List.mem_map.mpr ⟨y, hy, e⟩)
/-! ### how many different values -/
theorem ins_len (x : Int) : ∀ l : List Int, (ins x l).length ≤ l.length + 1 ∧ (x ∈ l → l.Pairwise (· < ·) → (ins x l).length = l.length) ∧ (x ∉ l → (ins x l).length = l.length + 1)
  | [] => ⟨Nat.le_refl _, (fun h => by cases h), fun _ => rfl⟩
  | y :: r => by
    obtain ⟨h1, h2, h3⟩ := ins_len x r
    unfold ins
    by_cases a : x < y
    · rw [if_pos a]
      refine ⟨Nat.le_refl _, fun hx hs => ?_, fun _ => rfl⟩
      rcases List.mem_cons.mp hx with q | q
      · omega
      · have := (List.pairwise_cons.mp hs).1 x q
        omega
    · rw [if_neg a]
      by_cases b : x = y
      · rw [if_pos b]
        exact ⟨Nat.le_succ _, fun _ _ => rfl, fun h => absurd (List.mem_cons.mpr (.inl b)) h⟩
      · rw [if_neg b]
        refine ⟨by simpa using h1, fun hx hs => ?_, fun hx => ?_⟩
        · rcases List.mem_cons.mp hx with q | q
          · exact absurd q b
          · simpa using h2 q (List.pairwise_cons.mp hs).2
        · simpa using h3 fun q => hx (List.mem_cons_of_mem _ q)
theorem srt_le_len : ∀ l : List Int, (srt l).length ≤ l.length ∧ (l.length ≤ (srt l).length → l.Nodup)
  | [] => ⟨Nat.le_refl _, fun _ => List.nodup_nil⟩
  | y :: r => by
    obtain ⟨h1, h2⟩ := srt_le_len r
    have e : srt (y :: r) = ins y (srt r) := rfl
    obtain ⟨i1, i2, i3⟩ := ins_len y (srt r)
    rw [e]
    refine ⟨by simp only [List.length_cons]; omega, fun h => ?_⟩
    simp only [List.length_cons] at h
    by_cases hm : y ∈ r
    · have := i2 (mem_srt.mpr hm) (srt_sorted r)
      omega
    · exact List.nodup_cons.mpr ⟨hm, h2 (by omega)⟩
theorem srt_nd (l : List Int) : (srt l).Nodup := (srt_sorted l).imp fun h => by omega
theorem nd_back {l m : List Int} (hl : l.Nodup) (hs : ∀ x ∈ l, x ∈ m) (hn : m.length ≤ l.length) : ∀ x ∈ m, x ∈ l := fun x hx => by
  by_cases h : x ∈ l
  · exact h
  · have := nodup_le (List.nodup_cons.mpr ⟨h, hl⟩) (m := m) fun y hy => by
      rcases List.mem_cons.mp hy with q | q
      · rw [q]; exact hx
      · exact hs y q
    simp only [List.length_cons] at this
    omega
theorem nd_of {l m : List Int} (hm : m.Nodup) (hs : ∀ x ∈ m, x ∈ l) (hn : l.length ≤ m.length) : l.Nodup := by
  have h1 := nodup_le hm (m := srt l) fun x hx => mem_srt.mpr (hs x hx)
  exact (srt_le_len l).2 (by omega)
def vals (rows : List (List Int)) (a : Int) : List Int := srt (rows.map fun x => vat x a)
theorem mem_vals {rows : List (List Int)} {a v : Int} : v ∈ vals rows a ↔ ∃ x ∈ rows, vat x a = v := by
  unfold vals
  rw [mem_srt, List.mem_map]
def cnt (rows : List (List Int)) (a : Int) : Nat := (vals rows a).length
section
variable {rows : List (List Int)} {a b c : Int}
theorem within_le (h : hld rows (false, a, b) = true) : cnt rows a ≤ cnt rows b := nodup_le (srt_nd _) fun v hv => by
  obtain ⟨x, hx, rfl⟩ := mem_vals.mp hv
  obtain ⟨y, hy, e⟩ := hld_within.mp h x hx
  exact mem_vals.mpr ⟨y, hy, e⟩
theorem within_back (h : hld rows (false, a, b) = true) (hc : cnt rows b ≤ cnt rows a) : hld rows (false, b, a) = true := by
  refine hld_within.mpr fun x hx => ?_
  have := nd_back (srt_nd _) (l := vals rows a) (m := vals rows b) (fun v hv => by
    obtain ⟨x, hx, rfl⟩ := mem_vals.mp hv
    obtain ⟨y, hy, e⟩ := hld_within.mp h x hx
    exact mem_vals.mpr ⟨y, hy, e⟩) hc (vat x b) (mem_vals.mpr ⟨x, hx, rfl⟩)
  exact mem_vals.mp this
/-- the value of b beside a value of a -/
def beside (rows : List (List Int)) (a b v : Int) : Int := ((rows.find? fun x => decide (vat x a = v)).map fun x => vat x b).getD 0
theorem beside_at (h : hld rows (true, a, b) = true) {x : List Int} (hx : x ∈ rows) : beside rows a b (vat x a) = vat x b := by
  unfold beside
  cases e : rows.find? fun y => decide (vat y a = vat x a) with
  | none => exact absurd (decide_eq_true rfl) (List.find?_eq_none.mp e x hx)
  | some y =>
    have h1 := List.find?_some e
    have h2 := List.mem_of_find?_eq_some e
    exact hld_settles.mp h y h2 x hx (of_decide_eq_true h1)
theorem settles_sub (h : hld rows (true, a, b) = true) : ∀ v ∈ vals rows b, v ∈ (vals rows a).map (beside rows a b) := fun v hv => by
  obtain ⟨x, hx, rfl⟩ := mem_vals.mp hv
  exact List.mem_map.mpr ⟨vat x a, mem_vals.mpr ⟨x, hx, rfl⟩, beside_at h hx⟩
theorem settles_le (h : hld rows (true, a, b) = true) : cnt rows b ≤ cnt rows a := by
  have := nodup_le (srt_nd _) (settles_sub h)
  rw [List.length_map] at this
  exact this
theorem inj_map {f : Int → Int} : ∀ {l : List Int}, (l.map f).Nodup → ∀ x ∈ l, ∀ y ∈ l, f x = f y → x = y
  | [], _, x, hx, _, _, _ => nomatch hx
  | z :: l, h, x, hx, y, hy, e => by
    rw [List.map_cons, List.nodup_cons] at h
    rcases List.mem_cons.mp hx with ex | hx
    · rcases List.mem_cons.mp hy with ey | hy
      · rw [ex, ey]
      · rw [ex] at e
        exact absurd (List.mem_map.mpr ⟨y, hy, e.symm⟩) h.1
    · rcases List.mem_cons.mp hy with ey | hy
      · rw [ey] at e
        exact absurd (List.mem_map.mpr ⟨x, hx, e⟩) h.1
      · exact inj_map h.2 x hx y hy e
theorem settles_back (h : hld rows (true, a, b) = true) (hc : cnt rows a ≤ cnt rows b) : hld rows (true, b, a) = true := by
  have nd : ((vals rows a).map (beside rows a b)).Nodup := nd_of (srt_nd _) (settles_sub h) (by rw [List.length_map]; exact hc)
  refine hld_settles.mpr fun x hx y hy e => ?_
  refine inj_map nd _ (mem_vals.mpr ⟨x, hx, rfl⟩) _ (mem_vals.mpr ⟨y, hy, rfl⟩) ?_
  rw [beside_at h hx, beside_at h hy, e]
theorem settles_tr (h1 : hld rows (true, a, b) = true) (h2 : hld rows (true, b, c) = true) : hld rows (true, a, c) = true :=
  hld_settles.mpr fun x hx y hy e => hld_settles.mp h2 x hx y hy (hld_settles.mp h1 x hx y hy e)
theorem within_tr (h1 : hld rows (false, a, b) = true) (h2 : hld rows (false, b, c) = true) : hld rows (false, a, c) = true := by
  refine hld_within.mpr fun x hx => ?_
  obtain ⟨y, hy, e⟩ := hld_within.mp h1 x hx
  obtain ⟨z, hz, e2⟩ := hld_within.mp h2 y hy
  exact ⟨z, hz, by rw [e2, e]⟩
theorem hld_refl (k : Bool) (a : Int) : hld rows (k, a, a) = true := by
  cases k with
  | true => exact hld_settles.mpr fun _ _ _ _ e => e
  | false => exact hld_within.mpr fun x hx => ⟨x, hx, rfl⟩
theorem hld_tr {k : Bool} (h1 : hld rows (k, a, b) = true) (h2 : hld rows (k, b, c) = true) : hld rows (k, a, c) = true := by
  cases k with
  | true => exact settles_tr h1 h2
  | false => exact within_tr h1 h2
/-- along a walk the numbers do not grow -/
theorem cnt_walk {rs : List R} (h : ∀ r ∈ rs, hld rows r = true) (hw : Rch (dns rs) a b) : cnt rows b ≤ cnt rows a := by
  induction hw with
  | refl => exact Nat.le_refl _
  | step _ hp ih =>
    refine Nat.le_trans ?_ ih
    unfold dns at hp
    obtain ⟨⟨k, x, y⟩, hr, e⟩ := List.mem_map.mp hp
    have hh := h _ hr
    unfold dn at e
    cases k with
    | true =>
      rw [if_pos rfl] at e
      injection e with e1 e2
      rw [← e1, ← e2]
      exact settles_le hh
    | false =>
      rw [if_neg (show ¬ ((false : Bool) = true) from Bool.false_ne_true)] at e
      injection e with e1 e2
      rw [← e1, ← e2]
      exact within_le hh
/-- what follows from rules that hold, holds -/
theorem arr_hld {rs : List R} (h : ∀ r ∈ rs, hld rows r = true) {k : Bool} (hp : (a, b) ∈ arr rs k) : hld rows (k, a, b) = true := by
  rcases arr_two hp with q | ⟨q, g⟩
  · exact h _ q
  · have hh := h _ q
    unfold ring at g
    cases k with
    | true =>
      rw [if_pos rfl] at g
      exact settles_back hh (cnt_walk h ((short_some _ _ _).mp g))
    | false =>
      rw [if_neg (show ¬ ((false : Bool) = true) from Bool.false_ne_true)] at g
      exact within_back hh (cnt_walk h ((short_some _ _ _).mp g))
theorem fol_hld {rs : List R} (h : ∀ r ∈ rs, hld rows r = true) {r : R} (hf : fol rs r = true) : hld rows r = true := by
  obtain ⟨k, x, y⟩ := r
  have hw : Rch (arr rs k) x y := fol_iff.mp hf
  clear hf
  induction hw with
  | refl => exact hld_refl k x
  | step _ hp ih => exact hld_tr ih (arr_hld h hp)
end
end Mt

/-! The texts of rules. -/
namespace Mt
open PySem TL
def kS (k : Bool) : Str := if k = true then "settles" else "within"
def nS (i : Int) : Str := toString i
def lnS (r : R) : Str := nS r.2.1 ++ " " ++ kS r.1 ++ " " ++ nS r.2.2
def lnN (r : R) : Str := nS r.2.1 ++ " " ++ kS r.1 ++ " " ++ nS r.2.2 ++ "\n"
def textOf (rs : List R) : Str := Str.join "" (rs.map lnN)
theorem empty_app (x : Str) : Str.empty ++ x = x := ext_tl (by rw [tl_append]; rfl)
theorem fine_cols {w : Int} {rs : List R} (h : Ok w rs) (hw : w ≤ 6) {r : R} (hr : r ∈ rs) : ∃ a b : Nat, r.2.1 = (a : Int) ∧ r.2.2 = (b : Int) ∧ a < 6 ∧ b < 6 := by
  have := h.lo r hr
  exact ⟨r.2.1.toNat, r.2.2.toNat, by omega, by omega, by omega, by omega⟩
theorem tl_nS {a : Nat} (h : a < 6) : tl (nS (a : Int)) = [48 + a] := by
  unfold nS
  rw [tl_num, numL_lt (by omega)]
theorem tl_kS (k : Bool) : tl (kS k) = if k = true then [115, 101, 116, 116, 108, 101, 115] else [119, 105, 116, 104, 105, 110] := by
  cases k <;> decide +kernel
theorem tl_sp : tl (" " : Str) = [32] := by decide +kernel
theorem tl_nl : tl ("\n" : Str) = [10] := by decide +kernel
theorem tl_none : tl ("" : Str) = [] := by decide +kernel
theorem tl_lnS {w : Int} {rs : List R} (h : Ok w rs) (hw : w ≤ 6) {r : R} (hr : r ∈ rs) : ∃ a b : Nat, r.2.1 = (a : Int) ∧ r.2.2 = (b : Int) ∧ a < 6 ∧ b < 6 ∧ tl (lnS r) = [48 + a, 32] ++ tl (kS r.1) ++ [32, 48 + b] := by
  obtain ⟨a, b, ea, eb, ha, hb⟩ := fine_cols h hw hr
  refine ⟨a, b, ea, eb, ha, hb, ?_⟩
  unfold lnS
  rw [tl_append, tl_append, tl_append, tl_append, ea, eb, tl_nS ha, tl_nS hb, tl_sp]
  simp
theorem no_nl {w : Int} {rs : List R} (h : Ok w rs) (hw : w ≤ 6) {r : R} (hr : r ∈ rs) : 10 ∉ tl (lnS r) := by
  obtain ⟨a, b, _, _, ha, hb, e⟩ := tl_lnS h hw hr
  rw [e, tl_kS]
  cases r.1 <;> simp <;> omega
theorem lnN_eq (r : R) : lnN r = lnS r ++ "\n" := rfl
theorem joinL_nil : ∀ l : List (List Nat), joinL [] l = l.flatten
  | [] => rfl
  | [p] => by simp [joinL]
  | p :: q :: r => by
    show p ++ ([] ++ joinL [] (q :: r)) = _
    rw [joinL_nil (q :: r)]; simp
theorem tl_textOf (rs : List R) : tl (textOf rs) = (rs.map fun r => tl (lnS r) ++ [10]).flatten := by
  unfold textOf
  rw [tl_join, tl_none, joinL_nil, List.map_map]
  congr 1
  refine List.map_congr_left fun r _ => ?_
  show tl (lnN r) = _
  rw [lnN_eq, tl_append, tl_nl]
theorem joinL_nl : ∀ l : List (List Nat), joinL [10] (l ++ [[]]) = (l.map fun p => p ++ [10]).flatten
  | [] => rfl
  | [p] => by simp [joinL]
  | p :: q :: r => by
    show p ++ ([10] ++ joinL [10] ((q :: r) ++ [[]])) = _
    rw [joinL_nl (q :: r)]; simp
theorem textOf_join (rs : List R) : textOf rs = Txt.join "\n" (rs.map lnS ++ [("" : Str)]) := by
  refine ext_tl ?_
  rw [join_eq, tl_join, tl_textOf, tl_nl, List.map_append, List.map_map]
  show _ = joinL [10] (_ ++ [tl ("" : Str)])
  rw [tl_none, joinL_nl, List.map_map]
  rfl
theorem split_text {w : Int} {rs : List R} (h : Ok w rs) (hw : w ≤ 6) : Txt.split (textOf rs) "\n" = rs.map lnS ++ [("" : Str)] := by
  rw [textOf_join]
  refine split_join tl_nl (by decide +kernel) (by simp) fun p hp => ?_
  rcases List.mem_append.mp hp with hp | hp
  · obtain ⟨r, hr, rfl⟩ := List.mem_map.mp hp
    exact no_nl h hw hr
  · rw [List.mem_singleton.mp hp, tl_none]; simp
theorem lnS_join (r : R) : lnS r = Txt.join " " [nS r.2.1, kS r.1, nS r.2.2] := by
  refine ext_tl ?_
  rw [join_eq, tl_join]
  unfold lnS
  simp only [tl_append, List.map_cons, List.map_nil, joinL, List.append_assoc]
theorem split_line {w : Int} {rs : List R} (h : Ok w rs) (hw : w ≤ 6) {r : R} (hr : r ∈ rs) : Txt.split (lnS r) " " = [nS r.2.1, kS r.1, nS r.2.2] := by
  rw [lnS_join]
  obtain ⟨a, b, ea, eb, ha, hb⟩ := fine_cols h hw hr
  refine split_join tl_sp (by decide +kernel) (by simp) fun p hp => ?_
  simp only [List.mem_cons, List.not_mem_nil, or_false] at hp
  rcases hp with rfl | rfl | rfl
  · rw [ea, tl_nS ha]; simp; omega
  · rw [tl_kS]; cases r.1 <;> decide
  · rw [eb, tl_nS hb]; simp; omega
theorem len_app (x y : Str) : (x ++ y).length = x.length + y.length := by rw [len_tl, tl_append, List.length_append, len_tl, len_tl]
theorem lnS_len {w : Int} {rs : List R} (h : Ok w rs) (hw : w ≤ 6) {r : R} (hr : r ∈ rs) : (lnS r).length ≤ 20 := by
  obtain ⟨a, b, _, _, ha, hb, e⟩ := tl_lnS h hw hr
  rw [len_tl, e, tl_kS]
  cases r.1 <;> simp
theorem lnN_len {w : Int} {rs : List R} (h : Ok w rs) (hw : w ≤ 6) {r : R} (hr : r ∈ rs) : (lnN r).length ≤ 21 := by
  rw [lnN_eq, len_app]
  have := lnS_len h hw hr
  have e : ("\n" : Str).length = 1 := by decide +kernel
  omega
theorem text_len {w : Int} {rs : List R} (h : Ok w rs) (hw : w ≤ 6) : (textOf rs).length ≤ 21 * rs.length := by
  rw [len_tl, tl_textOf]
  have : ∀ l : List R, (∀ r ∈ l, r ∈ rs) → ((l.map fun r => tl (lnS r) ++ [10]).flatten).length ≤ 21 * l.length := by
    intro l
    induction l with
    | nil => intro _; simp
    | cons r l ih =>
      intro hs
      rw [List.map_cons, List.flatten_cons, List.length_append, List.length_append, ← len_tl]
      have := lnS_len h hw (hs r (List.mem_cons_self ..))
      have := ih fun z hz => hs z (List.mem_cons_of_mem _ hz)
      simp only [List.length_cons, List.length_nil]
      omega
  exact this rs fun _ h => h
theorem sum_len {w : Int} {rs : List R} (h : Ok w rs) (hw : w ≤ 6) : (((rs.map lnN)).map (·.length)).sum ≤ 21 * rs.length := by
  have : ∀ l : List R, (∀ r ∈ l, r ∈ rs) → (((l.map lnN)).map (·.length)).sum ≤ 21 * l.length := by
    intro l
    induction l with
    | nil => intro _; simp
    | cons r l ih =>
      intro hs
      simp only [List.map_cons, List.sum_cons, List.length_cons]
      have := lnN_len h hw (hs r (List.mem_cons_self ..))
      have := ih fun z hz => hs z (List.mem_cons_of_mem _ hz)
      omega
  exact this rs fun _ h => h
theorem text_ends (rs : List R) (hne : rs ≠ []) : Txt.endswith (textOf rs) "\n" = true := by
  obtain ⟨p, hp⟩ : ∃ p, tl (textOf rs) = p ++ [10] := by
    rw [tl_textOf]
    obtain ⟨q, z, rfl⟩ : ∃ q z, rs = q ++ [z] := by
      cases e : rs.reverse with
      | nil => exact absurd (List.reverse_eq_nil_iff.mp e) hne
      | cons z q => exact ⟨q.reverse, z, by rw [← List.reverse_cons, ← e, List.reverse_reverse]⟩
    rw [List.map_append, List.flatten_append]
    exact ⟨_, by simp only [List.map_cons, List.map_nil, List.flatten_cons, List.flatten_nil, List.append_nil]; rw [← List.append_assoc]⟩
  have hl : (textOf rs).length = p.length + 1 := by rw [len_tl, hp]; simp
  have h1 : ("\n" : Str).length = 1 := by decide +kernel
  unfold Txt.endswith
  rw [Bool.and_eq_true]
  refine ⟨decide_eq_true (by omega), ?_⟩
  rw [StrLaws.subAt_eq, hl, h1]
  show ((tl (textOf rs)).drop _ |>.take 1) == tl ("\n" : Str)
  rw [hp, tl_nl]
  simp
theorem text_nil : textOf [] = "" := rfl
theorem find_col {a : Nat} (h : a < 6) : Txt.find "012345" (nS (a : Int)) = (a : Int) := by
  have : ∀ a : Fin 6, Txt.find "012345" (nS ((a.val : Nat) : Int)) = ((a.val : Nat) : Int) := by decide +kernel
  exact this ⟨a, h⟩
theorem nS_len {a : Nat} (h : a < 6) : (nS (a : Int)).length = 1 := by rw [len_tl, tl_nS h]; rfl
end Mt

/-! The texts of tables. -/
namespace Mt
open PySem TL
/-! lines, each with its end -/
def linesT (l : List Str) : Str := Str.join "" (l.map fun s => s ++ "\n")
theorem tl_linesT (l : List Str) : tl (linesT l) = (l.map fun s => tl s ++ [10]).flatten := by
  unfold linesT
  rw [tl_join, tl_none, joinL_nil, List.map_map]
  congr 1
  refine List.map_congr_left fun r _ => ?_
  show tl (r ++ "\n") = _
  rw [tl_append, tl_nl]
theorem linesT_join (l : List Str) : linesT l = Txt.join "\n" (l ++ [("" : Str)]) := by
  refine ext_tl ?_
  rw [join_eq, tl_join, tl_linesT, tl_nl, List.map_append]
  show _ = joinL [10] (_ ++ [tl ("" : Str)])
  rw [tl_none, joinL_nl, List.map_map]
  rfl
theorem split_lines {l : List Str} (h : ∀ s ∈ l, 10 ∉ tl s) : Txt.split (linesT l) "\n" = l ++ [("" : Str)] := by
  rw [linesT_join]
  refine split_join tl_nl (by decide +kernel) (by simp) fun p hp => ?_
  rcases List.mem_append.mp hp with hp | hp
  · exact h p hp
  · rw [List.mem_singleton.mp hp, tl_none]; simp
theorem lines_len {l : List Str} {n : Nat} (h : ∀ s ∈ l, s.length ≤ n) : (linesT l).length ≤ (n + 1) * l.length := by
  rw [len_tl, tl_linesT]
  induction l with
  | nil => simp
  | cons s l ih =>
    rw [List.map_cons, List.flatten_cons, List.length_append, List.length_append, ← len_tl]
    have := h s (List.mem_cons_self ..)
    have := ih fun z hz => h z (List.mem_cons_of_mem _ hz)
    simp only [List.length_cons, List.length_nil]
    rw [Nat.mul_add]
    omega
theorem lines_sum {l : List Str} {n : Nat} (h : ∀ s ∈ l, s.length ≤ n) : ((l.map fun s => s ++ ("\n" : Str)).map (·.length)).sum ≤ (n + 1) * l.length := by
  have e1 : ("\n" : Str).length = 1 := by decide +kernel
  induction l with
  | nil => simp
  | cons s l ih =>
    simp only [List.map_cons, List.sum_cons, List.length_cons]
    have := h s (List.mem_cons_self ..)
    have := ih fun z hz => h z (List.mem_cons_of_mem _ hz)
    rw [len_app, Nat.mul_add]
    omega
theorem lines_ends {l : List Str} (hne : l ≠ []) : Txt.endswith (linesT l) "\n" = true := by
  obtain ⟨p, hp⟩ : ∃ p, tl (linesT l) = p ++ [10] := by
    rw [tl_linesT]
    obtain ⟨q, z, rfl⟩ : ∃ q z, l = q ++ [z] := by
      cases e : l.reverse with
      | nil => exact absurd (List.reverse_eq_nil_iff.mp e) hne
      | cons z q => exact ⟨q.reverse, z, by rw [← List.reverse_cons, ← e, List.reverse_reverse]⟩
    rw [List.map_append, List.flatten_append]
    exact ⟨_, by simp only [List.map_cons, List.map_nil, List.flatten_cons, List.flatten_nil, List.append_nil]; rw [← List.append_assoc]⟩
  have hl : (linesT l).length = p.length + 1 := by rw [len_tl, hp]; simp
  have h1 : ("\n" : Str).length = 1 := by decide +kernel
  unfold Txt.endswith
  rw [Bool.and_eq_true]
  refine ⟨decide_eq_true (by omega), ?_⟩
  rw [StrLaws.subAt_eq, hl, h1]
  show ((tl (linesT l)).drop _ |>.take 1) == tl ("\n" : Str)
  rw [hp, tl_nl]
  simp
theorem lines_ok (l : List Str) : (!decide (linesT l = "") && !Txt.endswith (linesT l) "\n") = false := by
  cases l with
  | nil => decide +kernel
  | cons s l => rw [lines_ends (by simp)]; simp
theorem textOf_lines (rs : List R) : textOf rs = linesT (rs.map lnS) := by
  unfold textOf linesT
  rw [List.map_map]
  rfl
/-! values of a table -/
/-- what may stand in a table -/
def isVal (v : Int) : Prop := 0 ≤ v ∧ v ≤ 9999
theorem tl_val {v : Int} (h : isVal v) : tl (nS v) = numL v.toNat := by
  have e : v = ((v.toNat : Nat) : Int) := by have := h.1; omega
  unfold nS
  rw [e]
  exact tl_num _
theorem len_val {v : Int} (h : isVal v) : 1 ≤ (nS v).length ∧ (nS v).length ≤ 4 := by
  rw [len_tl, tl_val h]
  have h1 : (numL v.toNat).length ≤ 4 := numL_len (by decide) (by have := h.2; have := h.1; omega)
  have h2 := numL_ne v.toNat
  have h3 : (numL v.toNat).length ≠ 0 := fun z => h2 (List.length_eq_zero_iff.mp z)
  omega
theorem digits_tl : tl ("0123456789" : Str) = [48, 49, 50, 51, 52, 53, 54, 55, 56, 57] := by decide +kernel
theorem sign_val {v : Int} (h : isVal v) {c : Nat} (hc : c ∈ tl (nS v)) : c ∈ tl ("0123456789" : Str) := by
  rw [tl_val h] at hc
  have h1 := numL_digits _ c hc
  rw [digits_tl]
  have h2 : 48 ≤ c ∧ c ≤ 57 := h1
  simp only [List.mem_cons, List.not_mem_nil, or_false]
  omega
theorem free_val {v : Int} (h : isVal v) {s : Nat} (hs : s < 48 ∨ 57 < s) : s ∉ tl (nS v) := by
  rw [tl_val h]
  exact numL_free hs
theorem int_val {v : Int} (h : isVal v) : intText? (nS v) = some v := by
  have e : v = ((v.toNat : Nat) : Int) := by have := h.1; omega
  have h1 : (numL v.toNat).length ≤ 4 := numL_len (by decide) (by have := h.2; have := h.1; omega)
  unfold nS
  rw [e]
  exact int_num (by omega)
/-! rows -/
structure Rw (w : Int) (x : List Int) : Prop where
  len : (x.length : Int) = w
  val : ∀ v ∈ x, isVal v
def rwS (x : List Int) : Str := Str.join " " (x.map nS)
def rwsT (rows : List (List Int)) : Str := linesT (rows.map rwS)
theorem joinL_free {s c : Nat} (h : c ≠ s) : ∀ l : List (List Nat), (∀ p ∈ l, c ∉ p) → c ∉ joinL [s] l
  | [], _ => by simp [joinL]
  | [p], hp => by simpa [joinL] using hp p (by simp)
  | p :: q :: r, hp => by
    show c ∉ p ++ ([s] ++ joinL [s] (q :: r))
    have h1 := hp p (by simp)
    have h2 := joinL_free h (q :: r) fun z hz => hp z (List.mem_cons_of_mem _ hz)
    simp only [List.mem_append, List.mem_singleton, not_or]
    exact ⟨h1, h, h2⟩
theorem row_free {w : Int} {x : List Int} (h : Rw w x) : 10 ∉ tl (rwS x) := by
  unfold rwS
  rw [tl_join, tl_sp, List.map_map]
  refine joinL_free (by decide) _ fun p hp => ?_
  obtain ⟨v, hv, rfl⟩ := List.mem_map.mp hp
  exact free_val (h.val v hv) (.inl (by decide))
theorem split_row {w : Int} {x : List Int} (h : Rw w x) (h1 : 1 ≤ w) : Txt.split (rwS x) " " = x.map nS := by
  unfold rwS
  rw [← join_eq]
  refine split_join tl_sp (by decide +kernel) (fun e => ?_) fun p hp => ?_
  · have := h.len
    rw [List.map_eq_nil_iff.mp e] at this
    simp at this
    omega
  · obtain ⟨v, hv, rfl⟩ := List.mem_map.mp hp
    exact free_val (h.val v hv) (.inl (by decide))
theorem joinL_len (s : Nat) : ∀ (l : List (List Nat)) {n : Nat}, (∀ p ∈ l, p.length ≤ n) → (joinL [s] l).length ≤ (n + 1) * l.length
  | [], _, _ => by simp [joinL]
  | [p], n, hp => by
    have := hp p (by simp)
    simp [joinL]
    omega
  | p :: q :: r, n, hp => by
    have h1 := hp p (by simp)
    have h2 := joinL_len s (q :: r) (n := n) fun z hz => hp z (List.mem_cons_of_mem _ hz)
    show (p ++ ([s] ++ joinL [s] (q :: r))).length ≤ _
    rw [List.length_append, List.length_append, List.length_cons (a := p), Nat.mul_add]
    simp only [List.length_cons, List.length_nil] at *
    omega
theorem row_len {w : Int} {x : List Int} (h : Rw w x) (hw : w ≤ 6) : (rwS x).length ≤ 30 := by
  rw [len_tl]
  unfold rwS
  rw [tl_join, tl_sp, List.map_map]
  have h2 : x.length ≤ 6 := by have := h.len; omega
  have := joinL_len 32 (x.map (tl ∘ nS)) (n := 4) fun p hp => by
    obtain ⟨v, hv, rfl⟩ := List.mem_map.mp hp
    have := (len_val (h.val v hv)).2
    rw [len_tl] at this
    exact this
  rw [List.length_map] at this
  omega
theorem row_sum {w : Int} {x : List Int} (h : Rw w x) (hw : w ≤ 6) : ((x.map nS).map (·.length)).sum ≤ 24 := by
  have h2 : x.length ≤ 6 := by have := h.len; omega
  have : ∀ l : List Int, (∀ v ∈ l, isVal v) → ((l.map nS).map (·.length)).sum ≤ 4 * l.length := by
    intro l
    induction l with
    | nil => intro _; simp
    | cons v l ih =>
      intro hs
      simp only [List.map_cons, List.sum_cons, List.length_cons]
      have := (len_val (hs v (List.mem_cons_self ..))).2
      have := ih fun z hz => hs z (List.mem_cons_of_mem _ hz)
      omega
  have := this x h.val
  omega
structure Rws (w : Int) (rows : List (List Int)) : Prop where
  few : rows.length ≤ 400
  row : ∀ x ∈ rows, Rw w x
theorem split_rows {w : Int} {rows : List (List Int)} (h : Rws w rows) : Txt.split (rwsT rows) "\n" = rows.map rwS ++ [("" : Str)] := split_lines fun s hs => by
  obtain ⟨x, hx, rfl⟩ := List.mem_map.mp hs
  exact row_free (h.row x hx)
theorem rwsT_len {w : Int} {rows : List (List Int)} (h : Rws w rows) (hw : w ≤ 6) : (rwsT rows).length ≤ 31 * 400 := by
  have := lines_len (l := rows.map rwS) (n := 30) fun s hs => by
    obtain ⟨x, hx, rfl⟩ := List.mem_map.mp hs
    exact row_len (h.row x hx) hw
  rw [List.length_map] at this
  have := h.few
  unfold rwsT
  omega
theorem rows_sum {w : Int} {rows : List (List Int)} (h : Rws w rows) (hw : w ≤ 6) : (((rows.map rwS).map fun s => s ++ ("\n" : Str)).map (·.length)).sum ≤ 31 * 400 := by
  have := lines_sum (l := rows.map rwS) (n := 30) fun s hs => by
    obtain ⟨x, hx, rfl⟩ := List.mem_map.mp hs
    exact row_len (h.row x hx) hw
  rw [List.length_map] at this
  have := h.few
  omega
theorem nS_log {v : Int} (h : isVal v) : v.natAbs.log2 < 1920 := by
  by_cases h0 : v.natAbs = 0
  · rw [h0]; decide
  · exact Nat.lt_trans ((Nat.log2_lt h0).mpr (show v.natAbs < 2 ^ 14 by have := h.1; have := h.2; omega)) (by decide)
end Mt

/-! MU: what any text says of rules. -/
namespace Mu
open PySem TL StrLaws Mt
def colOf (x : Str) : Int := if x.length = 1 then Txt.find "012345" x else -1
theorem colOf_ge {x : Str} (h0 : 0 ≤ colOf x) : ∃ a : Nat, colOf x = (a : Int) ∧ a < 6 ∧ x = nS (a : Int) := by
  unfold colOf at *
  split at h0
  · rename_i hl
    rw [if_pos hl]
    rcases PyProof.Rows.find_spec "012345" x with e | ⟨i, e, h1, h2⟩
    · rw [e] at h0; exact absurd h0 (by decide)
    · have l6 : ("012345" : Str).length = 6 := by decide +kernel
      rw [hl, l6] at h1
      refine ⟨i, e, by omega, ?_⟩
      rw [← h2, hl]
      have : ∀ i : Fin 6, Builtin.Str.strSub "012345" i.val (i.val + 1) = nS ((i.val : Nat) : Int) := by decide +kernel
      exact this ⟨i, by omega⟩
  · exact absurd h0 (by decide)
theorem colOf_nS {a : Nat} (h : a < 6) : colOf (nS (a : Int)) = (a : Int) := by
  unfold colOf
  rw [if_pos (nS_len h), find_col h]
theorem pre1 (s c : Nat) (r : List Nat) : pre [s] (c :: r) = decide (c = s) := by
  unfold pre
  simp only [List.length_singleton, List.take_succ_cons, List.take_zero]
  rw [Bool.eq_iff_iff]
  simp
theorem spl_ne (s : Nat) : ∀ (l acc : List Nat), spl [s] 0 acc l ≠ []
  | [], acc => by rw [spl_nil]; simp
  | c :: r, acc => by
    by_cases e : c = s
    · rw [spl_hit (by rw [pre1]; exact decide_eq_true e)]; simp
    · rw [spl_miss (by rw [pre1]; exact decide_eq_false e)]; exact spl_ne s r _
theorem joinL_cons (S p : List Nat) {l : List (List Nat)} (h : l ≠ []) : joinL S (p :: l) = p ++ (S ++ joinL S l) := by
  cases l with
  | nil => exact absurd rfl h
  | cons q l => rfl
theorem joinL_spl (s : Nat) : ∀ (l acc : List Nat), joinL [s] (spl [s] 0 acc l) = acc ++ l
  | [], acc => by rw [spl_nil]; simp [joinL]
  | c :: r, acc => by
    by_cases e : c = s
    · rw [spl_hit (by rw [pre1]; exact decide_eq_true e)]
      show joinL [s] (acc :: spl [s] 0 [] r) = _
      rw [joinL_cons _ _ (spl_ne s r []), joinL_spl s r [], e]
      rfl
    · rw [spl_miss (by rw [pre1]; exact decide_eq_false e), joinL_spl s r]
      simp
theorem spl_last0 (s : Nat) : ∀ (l acc : List Nat), (spl [s] 0 acc (l ++ [s])).getLast? = some []
  | [], acc => by
    show (spl [s] 0 acc [s]).getLast? = _
    rw [spl_hit (by rw [pre1]; exact decide_eq_true rfl)]
    show (acc :: spl [s] 0 [] []).getLast? = _
    rw [spl_nil]
    rfl
  | c :: r, acc => by
    show (spl [s] 0 acc (c :: (r ++ [s]))).getLast? = _
    by_cases e : c = s
    · rw [spl_hit (by rw [pre1]; exact decide_eq_true e)]
      show (acc :: spl [s] 0 [] (r ++ [s])).getLast? = _
      rw [List.getLast?_cons_of_ne_nil (spl_ne s _ _)]
      exact spl_last0 s r []
    · rw [spl_miss (by rw [pre1]; exact decide_eq_false e)]
      exact spl_last0 s r _
theorem spl_free (s : Nat) : ∀ (l acc : List Nat), s ∉ acc → ∀ p ∈ spl [s] 0 acc l, s ∉ p
  | [], acc, h, p, hp => by rw [spl_nil] at hp; rw [List.mem_singleton.mp hp]; exact h
  | c :: r, acc, h, p, hp => by
    by_cases e : c = s
    · rw [spl_hit (by rw [pre1]; exact decide_eq_true e)] at hp
      rcases List.mem_cons.mp hp with rfl | hp
      · exact h
      · exact spl_free s r [] (by simp) p hp
    · rw [spl_miss (by rw [pre1]; exact decide_eq_false e)] at hp
      exact spl_free s r _ (by simp only [List.mem_append, List.mem_singleton]; rintro (z | z); exact h z; exact e z.symm) p hp
section
variable {x y : Str} {s : Nat}
theorem split_tl (ey : tl y = [s]) (hk : y.cps.all (· < 256) = true) : (Txt.split x y).map tl = spl [s] 0 [] (tl x) := by
  rw [split_spl x y (by rw [ey]; simp) (kind_ok hk), ey]
theorem join_split1 (ey : tl y = [s]) (hk : y.cps.all (· < 256) = true) : Str.join y (Txt.split x y) = x := by
  refine ext_tl ?_
  rw [tl_join, split_tl ey hk, ey, joinL_spl]
  rfl
theorem split_ne (ey : tl y = [s]) (hk : y.cps.all (· < 256) = true) : Txt.split x y ≠ [] := fun e => by
  have := split_tl (x := x) ey hk
  rw [e] at this
  exact spl_ne s _ _ this.symm
theorem split_last (ey : tl y = [s]) (hk : y.cps.all (· < 256) = true) {p : List Nat} (hp : tl x = p ++ [s]) : Txt.split x y = (Txt.split x y).dropLast ++ [("" : Str)] := by
  have h1 := split_tl (x := x) ey hk
  have h2 := spl_last0 s p []
  rw [← hp, ← h1, List.getLast?_map] at h2
  cases e : (Txt.split x y).getLast? with
  | none => rw [e] at h2; cases h2
  | some z =>
    rw [e] at h2
    have hz : tl z = [] := by simpa using h2
    have hz2 : z = "" := ext_tl (hz.trans tl_none.symm)
    have hne : Txt.split x y ≠ [] := split_ne ey hk
    have h3 := List.dropLast_concat_getLast hne
    rw [List.getLast?_eq_some_getLast hne] at e
    rw [Option.some.inj e, hz2] at h3
    exact h3.symm
end
theorem ends_nl {x : Str} (h : Txt.endswith x "\n" = true) : ∃ p, tl x = p ++ [10] := by
  have h1 : ("\n" : Str).length = 1 := by decide +kernel
  unfold Txt.endswith at h
  rw [Bool.and_eq_true] at h
  obtain ⟨h2, h3⟩ := h
  rw [StrLaws.subAt_eq, h1] at h3
  have h4 : (((tl x).drop (x.length - 1)).take 1 == tl ("\n" : Str)) = true := h3
  rw [tl_nl] at h4
  have h5 := beq_iff_eq.mp h4
  have h6 : 0 + 1 ≤ x.length := by rw [h1] at h2; exact of_decide_eq_true h2
  rw [len_tl] at h6 h5
  refine ⟨(tl x).take ((tl x).length - 1), ?_⟩
  have h7 : List.drop ((tl x).length - 1) (tl x) = [10] := by
    rw [← h5]
    exact (List.take_of_length_le (by rw [List.length_drop]; omega)).symm
  rw [← h7, List.take_append_drop]
/-- the lines of a text; the rule of a line -/
def linesR (x : Str) : List Str := (Txt.split x "\n").dropLast
def lineR (w : Int) (x : Str) : Option R := (allR w).find? fun r => decide (lnS r = x)
theorem lineR_some {w : Int} {x : Str} {r : R} (h : lineR w x = some r) : r ∈ allR w ∧ lnS r = x := by
  unfold lineR at h
  have h2 := List.find?_some h
  exact ⟨List.mem_of_find?_eq_some h, by simpa using h2⟩
theorem lnS_inj {w : Int} (hw : w ≤ 6) {r s : R} (hr : r ∈ allR w) (hs : s ∈ allR w) (e : lnS r = lnS s) : r = s := by
  have h : ∀ r ∈ allR 6, ∀ s ∈ allR 6, decide (lnS r = lnS s) = true → r = s := by decide +kernel
  have up : ∀ {r : R}, r ∈ allR w → r ∈ allR 6 := fun {r} hr => by
    have := mem_allR.mp hr
    exact mem_allR.mpr ⟨this.1, by omega, this.2.2.1, by omega, this.2.2.2.2⟩
  exact h r (up hr) s (up hs) (decide_eq_true e)
theorem lineR_of {w : Int} (hw : w ≤ 6) {r : R} (hr : r ∈ allR w) : lineR w (lnS r) = some r := by
  cases h : lineR w (lnS r) with
  | none => exact absurd (decide_eq_true rfl) (List.find?_eq_none.mp h r hr)
  | some s =>
    obtain ⟨h1, h2⟩ := lineR_some h
    rw [lnS_inj hw h1 hr h2]
def dueT (w : Int) (x : Str) : Option (List R) := if (decide (x = "") || Txt.endswith x "\n") = true ∧ (∀ l ∈ linesR x, (lineR w l).isSome = true) ∧ ((linesR x).filterMap (lineR w)).Nodup then some ((linesR x).filterMap (lineR w)) else none
theorem nl256 : ("\n" : Str).cps.all (· < 256) = true := by decide +kernel
theorem sp256 : (" " : Str).cps.all (· < 256) = true := by decide +kernel
theorem split_nl {x : Str} (h : (decide (x = "") || Txt.endswith x "\n") = true) : Txt.split x "\n" = linesR x ++ [("" : Str)] := by
  rcases Bool.or_eq_true_iff.mp h with h | h
  · have e := of_decide_eq_true h
    subst e
    decide +kernel
  · obtain ⟨p, hp⟩ := ends_nl h
    exact split_last tl_nl nl256 hp
theorem filterMap_lines {w : Int} : ∀ {l : List Str}, (∀ x ∈ l, (lineR w x).isSome = true) → (l.filterMap (lineR w)).map lnS = l
  | [], _ => rfl
  | x :: l, h => by
    obtain ⟨r, hr⟩ := Option.isSome_iff_exists.mp (h x (List.mem_cons_self ..))
    rw [List.filterMap_cons_some hr, List.map_cons, (lineR_some hr).2, filterMap_lines fun y hy => h y (List.mem_cons_of_mem _ hy)]
theorem dueT_ok {w : Int} {x : Str} {rs : List R} (h : dueT w x = some rs) : Ok w rs ∧ textOf rs = x ∧ rs.map lnS = linesR x := by
  unfold dueT at h
  split at h
  · rename_i h'
    obtain ⟨h1, h2, h3⟩ := h'
    cases h
    have hm := filterMap_lines h2
    refine ⟨⟨h3, fun r hr => ?_⟩, ?_, hm⟩
    · obtain ⟨l, _, hl⟩ := List.mem_filterMap.mp hr
      exact mem_allR.mp (lineR_some hl).1
    · rw [textOf_join, hm, ← split_nl h1, join_eq, join_split1 tl_nl nl256]
  · cases h
/-- a line that a program takes for a rule is the line of that rule -/
theorem line_of_words {w : Int} (hw : w ≤ 6) {x a k b : Str} (h : Txt.split x " " = [a, k, b]) (hk : k = "settles" ∨ k = "within") (a0 : 0 ≤ colOf a) (a1 : colOf a < w) (b0 : 0 ≤ colOf b) (b1 : colOf b < w) (ne : colOf a ≠ colOf b) : lineR w x = some (decide (k = "settles"), colOf a, colOf b) := by
  obtain ⟨i, ei, hi, ea⟩ := colOf_ge a0
  obtain ⟨j, ej, hj, eb⟩ := colOf_ge b0
  have hx : x = lnS (decide (k = "settles"), colOf a, colOf b) := by
    have := join_split1 (x := x) tl_sp sp256
    rw [h] at this
    rw [← this]
    refine ext_tl ?_
    rw [tl_join, tl_sp]
    unfold lnS
    have ek : kS (decide (k = "settles")) = k := by rcases hk with rfl | rfl <;> decide +kernel
    rw [tl_append, tl_append, tl_append, tl_append, tl_sp, ek, ei, ej, ← ea, ← eb]
    simp [joinL]
  rw [hx]
  exact lineR_of hw (mem_allR.mpr ⟨a0, a1, b0, b1, ne⟩)
theorem split_ends (x : Str) : (Txt.split x "\n").dropLast = linesR x := rfl
theorem linesR_len (x : Str) : (linesR x).length ≤ x.length := by
  unfold linesR
  rw [List.length_dropLast]
  have h := congrArg List.length (split_tl (x := x) tl_nl nl256)
  rw [List.length_map] at h
  have hl : ∀ (l acc : List Nat), (spl [10] 0 acc l).length ≤ l.length + 1 := by
    intro l
    induction l with
    | nil => intro acc; rw [spl_nil]; simp
    | cons c r ih =>
      intro acc
      by_cases e : c = 10
      · rw [spl_hit (by rw [pre1]; exact decide_eq_true e)]
        have := ih []
        show (acc :: spl [10] 0 [] r).length ≤ _
        simp only [List.length_cons] at *
        omega
      · rw [spl_miss (by rw [pre1]; exact decide_eq_false e)]
        have := ih (acc ++ [c])
        simp only [List.length_cons] at *
        omega
  have := hl (tl x) []
  rw [len_tl]
  omega
theorem spl_len (s : Nat) : ∀ (l acc p : List Nat), p ∈ spl [s] 0 acc l → p.length ≤ acc.length + l.length
  | [], acc, p, h => by rw [spl_nil] at h; rw [List.mem_singleton.mp h]; simp
  | c :: r, acc, p, h => by
    by_cases e : c = s
    · rw [spl_hit (by rw [pre1]; exact decide_eq_true e)] at h
      rcases List.mem_cons.mp h with rfl | h
      · omega
      · have := spl_len s r [] p h
        simp only [List.length_cons, List.length_nil] at *
        omega
    · rw [spl_miss (by rw [pre1]; exact decide_eq_false e)] at h
      have := spl_len s r _ p h
      simp only [List.length_cons, List.length_append, List.length_nil] at *
      omega
theorem split_len1 {x y z : Str} {s : Nat} (ey : tl y = [s]) (hk : y.cps.all (· < 256) = true) (h : z ∈ Txt.split x y) : z.length ≤ x.length := by
  have h1 : tl z ∈ spl [s] 0 [] (tl x) := by rw [← split_tl ey hk]; exact List.mem_map_of_mem h
  have := spl_len s _ _ _ h1
  rw [len_tl, len_tl]
  simpa using this
end Mu

/-! A layer of values: what a body computes, told by data (D), the heap kept out of sight. -/
namespace Fx
open PySem L2

/-- data: c in obj is the number of a class -/
inductive D where
  | non | bl (b : Bool) | int (i : Int) | str (x : Str) | tup (xs : List D) | lst (xs : List D) | emp | obj (c : Nat) (xs : List D) | scr (ns : List Int) | ptup (xs : List D) | cls (c : Nat)

/-- the written part, the classes by number: where each stands, the names of its fields in order -/
structure Gx where
  K : PySem.W.Frag
  cls : Nat → Addr
  fld : Nat → List Str

mutual
def Is (G : Gx) (F : Hp) : D → V → Prop
  | .non, v => v = .non
  | .bl b, v => v = .bl b
  | .int i, v => v = .int i
  | .str x, v => v = .str x
  | .tup ds, v => ∃ a xs, v = .ref a ∧ SqT G.K F a xs ∧ IsAll G F ds xs
  | .lst ds, v => ∃ a xs, v = .ref a ∧ F a = some (.lst xs) ∧ IsAll G F ds xs
  | .scr ns, v => ∃ a, v = .ref a ∧ SqL G.K F a (ns.map V.int)
  | .cls c, v => v = .ref (G.cls c)
  | .ptup ds, v => ∃ a xs o, v = .ref a ∧ F a = some (.frz o (.tup xs)) ∧ o.dict = none ∧ IsAll G F ds xs
  | .emp, v => ∃ a, v = .ref a ∧ F a = some (.dK [])
  | .obj c ds, v => ∃ a dx fs, v = .ref a ∧ F a = some (.ins (G.cls c) dx fs) ∧ fs.map (·.1) = G.fld c ∧ IsAll G F ds (fs.map (·.2))
def IsAll (G : Gx) (F : Hp) : List D → List V → Prop
  | [], vs => vs = []
  | d :: ds, vs => ∃ v r, vs = v :: r ∧ Is G F d v ∧ IsAll G F ds r
end

section
variable {G : Gx} {F F' H H' : Hp}
theorem same_rd {a : Addr} {u : HO} (e : Same F F') (h : Rd F a u) : Rd F' a u := by
  rcases h with h | ⟨o, h⟩
  · exact .inl (e a _ h)
  · exact .inr ⟨o, e a _ h⟩
theorem same_t {K : PySem.W.Frag} {a : Addr} {xs : List V} (e : Same F F') (h : SqT K F a xs) : SqT K F' a xs := by
  rcases h with h | h
  · exact .inl (same_rd e h)
  · exact .inr h
theorem same_l {K : PySem.W.Frag} {a : Addr} {xs : List V} (e : Same F F') (h : SqL K F a xs) : SqL K F' a xs := by
  rcases h with h | h
  · exact .inl (same_rd e h)
  · exact .inr h
mutual
theorem Is.mono (e : Same F F') : ∀ (d : D) {v : V}, Is G F d v → Is G F' d v
  | .non, _, h => h
  | .bl _, _, h => h
  | .int _, _, h => h
  | .str _, _, h => h
  | .tup ds, _, h => by
    obtain ⟨a, xs, rfl, h1, h2⟩ := h
    exact ⟨a, xs, rfl, same_t e h1, IsAll.mono e ds h2⟩
  | .lst ds, _, h => by
    obtain ⟨a, xs, rfl, h1, h2⟩ := h
    exact ⟨a, xs, rfl, e _ _ h1, IsAll.mono e ds h2⟩
  | .scr ns, _, h => by
    obtain ⟨a, rfl, h1⟩ := h
    exact ⟨a, rfl, same_l e h1⟩
  | .cls _, _, h => h
  | .ptup ds, _, h => by
    obtain ⟨a, xs, o, rfl, h1, h2, h3⟩ := h
    exact ⟨a, xs, o, rfl, e _ _ h1, h2, IsAll.mono e ds h3⟩
  | .emp, _, h => by
    obtain ⟨a, rfl, h1⟩ := h
    exact ⟨a, rfl, e _ _ h1⟩
  | .obj c ds, _, h => by
    obtain ⟨a, dx, fs, rfl, h1, h2, h3⟩ := h
    exact ⟨a, dx, fs, rfl, e _ _ h1, h2, IsAll.mono e ds h3⟩
theorem IsAll.mono (e : Same F F') : ∀ (ds : List D) {vs : List V}, IsAll G F ds vs → IsAll G F' ds vs
  | [], _, h => h
  | d :: ds, _, h => by
    obtain ⟨v, r, rfl, h1, h2⟩ := h
    exact ⟨v, r, rfl, Is.mono e d h1, IsAll.mono e ds h2⟩
end
theorem IsAll.length : ∀ {ds : List D} {vs : List V}, IsAll G F ds vs → vs.length = ds.length
  | [], _, h => by cases h; rfl
  | d :: ds, _, h => by
    obtain ⟨v, r, rfl, h1, h2⟩ := h
    rw [List.length_cons, List.length_cons, IsAll.length h2]
theorem IsAll.get : ∀ {ds : List D} {vs : List V} {i : Nat} {d : D}, IsAll G F ds vs → ds[i]? = some d → ∃ v, vs[i]? = some v ∧ Is G F d v
  | [], _, _, _, h, e => by simp at e
  | d :: ds, _, 0, _, h, e => by
    obtain ⟨v, r, rfl, h1, h2⟩ := h
    simp at e
    subst e
    exact ⟨v, rfl, h1⟩
  | d :: ds, _, i + 1, _, h, e => by
    obtain ⟨v, r, rfl, h1, h2⟩ := h
    simpa using IsAll.get (i := i) h2 (by simpa using e)
theorem IsAll.getV {ds : List D} {vs : List V} {i : Nat} {v : V} (h : IsAll G F ds vs) (e : vs[i]? = some v) : ∃ d, ds[i]? = some d ∧ Is G F d v := by
  have hl := h.length
  have hi : i < ds.length := by
    have := (List.getElem?_eq_some_iff.mp e).1
    omega
  obtain ⟨w, e2, q⟩ := h.get (List.getElem?_eq_getElem hi)
  rw [e] at e2
  cases e2
  exact ⟨_, List.getElem?_eq_getElem hi, q⟩
theorem IsAll.append : ∀ {ds es : List D} {vs ws : List V}, IsAll G F ds vs → IsAll G F es ws → IsAll G F (ds ++ es) (vs ++ ws)
  | [], _, _, _, h, h' => by cases h; exact h'
  | d :: ds, _, _, _, h, h' => by
    obtain ⟨v, r, rfl, h1, h2⟩ := h
    exact ⟨v, _, rfl, h1, IsAll.append h2 h'⟩
theorem IsAll.one {d : D} {v : V} (h : Is G F d v) : IsAll G F [d] [v] := ⟨v, [], rfl, h, rfl⟩
theorem IsAll.take : ∀ {ds : List D} {vs : List V} (n : Nat), IsAll G F ds vs → IsAll G F (ds.take n) (vs.take n)
  | _, _, 0, _ => by simp [IsAll]
  | [], _, n + 1, h => by cases h; simp [IsAll]
  | d :: ds, _, n + 1, h => by
    obtain ⟨v, r, rfl, h1, h2⟩ := h
    exact ⟨v, _, by simp, h1, IsAll.take n h2⟩
theorem IsAll.drop : ∀ {ds : List D} {vs : List V} (n : Nat), IsAll G F ds vs → IsAll G F (ds.drop n) (vs.drop n)
  | _, _, 0, h => h
  | [], _, n + 1, h => by cases h; simp [IsAll]
  | d :: ds, _, n + 1, h => by
    obtain ⟨v, r, rfl, h1, h2⟩ := h
    simpa using IsAll.drop n h2
theorem IsAll.set : ∀ {ds : List D} {vs : List V} (i : Nat) {d : D} {v : V}, IsAll G F ds vs → Is G F d v → IsAll G F (ds.set i d) (vs.set i v)
  | [], _, _, _, _, h, _ => by cases h; simp [IsAll]
  | d :: ds, _, 0, _, _, h, q => by
    obtain ⟨v, r, rfl, h1, h2⟩ := h
    exact ⟨_, r, rfl, q, h2⟩
  | d :: ds, _, i + 1, _, _, h, q => by
    obtain ⟨v, r, rfl, h1, h2⟩ := h
    exact ⟨v, _, rfl, h1, IsAll.set i h2 q⟩
theorem IsAll.reverse {ds : List D} {vs : List V} (h : IsAll G F ds vs) : IsAll G F ds.reverse vs.reverse := by
  induction ds generalizing vs with
  | nil => cases h; simp [IsAll]
  | cons d ds ih =>
    obtain ⟨v, r, rfl, h1, h2⟩ := h
    rw [List.reverse_cons, List.reverse_cons]
    exact (ih h2).append (.one h1)
theorem IsAll.eraseIdx : ∀ {ds : List D} {vs : List V} (i : Nat), IsAll G F ds vs → IsAll G F (ds.eraseIdx i) (vs.eraseIdx i)
  | [], _, _, h => by cases h; simp [IsAll]
  | d :: ds, _, 0, h => by
    obtain ⟨v, r, rfl, h1, h2⟩ := h
    simpa using h2
  | d :: ds, _, i + 1, h => by
    obtain ⟨v, r, rfl, h1, h2⟩ := h
    exact ⟨v, _, by simp, h1, IsAll.eraseIdx i h2⟩
end

/-! ### what a slot holds -/
/-- nothing known; a value; a list of ours; an instance of ours, its fields so far; a list of ours of lists of ours; a dict of ours -/
inductive Cell where
  | no | val (d : D) | own (l : Addr) (ds : List D) | ins (l : Addr) (c : Nat) (ds : List D) | mat (l : Addr) (ls : List Addr) (rows : List (List D)) | dic (l : Addr) (kvs : List (Key × D))
def ownA : Cell → Option Addr
  | .own l _ => some l
  | .ins l _ _ => some l
  | .dic l _ => some l
  | _ => none
/-- what a cell owns -/
def Has : Cell → Addr → Prop
  | .own l _, a => a = l
  | .ins l _ _, a => a = l
  | .mat l ls _, a => a = l ∨ a ∈ ls
  | .dic l _, a => a = l
  | _, _ => False
theorem has_own {c : Cell} {l a : Addr} (h : ownA c = some l) : Has c a ↔ a = l := by
  cases c with
  | no => cases h
  | val d => cases h
  | own l' ds => cases h; exact Iff.rfl
  | ins l' k ds => cases h; exact Iff.rfl
  | mat l' ls rows => cases h
  | dic l' kvs => cases h; exact Iff.rfl
theorem has_self {c : Cell} {l : Addr} (h : ownA c = some l) : Has c l := (has_own h).mpr rfl
/-- what stands at a thing of ours -/
def Hold (G : Gx) (F : Hp) : Cell → HO → Prop
  | .own _ ds, o => ∃ vs, o = .lst vs ∧ IsAll G F ds vs
  | .ins _ c ds, o => ∃ dx fs, o = .ins (G.cls c) dx fs ∧ fs.map (·.1) = (G.fld c).take ds.length ∧ IsAll G F ds (fs.map (·.2))
  | .dic _ kvs, o => ∃ ws : List (Key × V), o = .dK ws ∧ ws.map (·.1) = kvs.map (·.1) ∧ IsAll G F (kvs.map (·.2)) (ws.map (·.2))
  | _, _ => False
def At (G : Gx) (F H : Hp) (c : Cell) (o : Option V) : Prop := match c with
  | .no => True
  | .val d => ∃ v, o = some v ∧ Is G F d v
  | .mat l ls rows => o = some (.ref l) ∧ H l = some (.lst (ls.map .ref)) ∧ F l = none ∧ l ∉ ls ∧ ls.Nodup ∧ ls.length = rows.length ∧ ∀ (j : Nat) (a : Addr) (row : List D), ls[j]? = some a → rows[j]? = some row → ∃ vs, H a = some (.lst vs) ∧ F a = none ∧ IsAll G F row vs
  | c => ∃ l u, ownA c = some l ∧ o = some (.ref l) ∧ H l = some u ∧ F l = none ∧ Hold G F c u
theorem Hold.mono {G : Gx} {F F' : Hp} (e : Same F F') : ∀ {c : Cell} {o : HO}, Hold G F c o → Hold G F' c o
  | .no, _, h => h
  | .val _, _, h => h
  | .own _ ds, _, h => by
    obtain ⟨vs, h1, h2⟩ := h
    exact ⟨vs, h1, IsAll.mono e ds h2⟩
  | .ins _ c ds, _, h => by
    obtain ⟨dx, fs, h1, h2, h3⟩ := h
    exact ⟨dx, fs, h1, h2, IsAll.mono e ds h3⟩
  | .mat _ _ _, _, h => h
  | .dic _ kvs, _, h => by
    obtain ⟨ws, h1, h2, h3⟩ := h
    exact ⟨ws, h1, h2, IsAll.mono e _ h3⟩
theorem at_own {G : Gx} {F H : Hp} {c : Cell} {o : Option V} {l : Addr} (h : ownA c = some l) : At G F H c o ↔ ∃ u, o = some (.ref l) ∧ H l = some u ∧ F l = none ∧ Hold G F c u := by
  cases c with
  | no => cases h
  | val d => cases h
  | own l' ds =>
    cases h
    exact ⟨fun ⟨a, u, h1, h2, h3, h4, h5⟩ => by cases h1; exact ⟨u, h2, h3, h4, h5⟩, fun ⟨u, h2, h3, h4, h5⟩ => ⟨l, u, rfl, h2, h3, h4, h5⟩⟩
  | ins l' k ds =>
    cases h
    exact ⟨fun ⟨a, u, h1, h2, h3, h4, h5⟩ => by cases h1; exact ⟨u, h2, h3, h4, h5⟩, fun ⟨u, h2, h3, h4, h5⟩ => ⟨l, u, rfl, h2, h3, h4, h5⟩⟩
  | mat l' ls rows => cases h
  | dic l' kvs =>
    cases h
    exact ⟨fun ⟨a, u, h1, h2, h3, h4, h5⟩ => by cases h1; exact ⟨u, h2, h3, h4, h5⟩, fun ⟨u, h2, h3, h4, h5⟩ => ⟨_, u, rfl, h2, h3, h4, h5⟩⟩
/-- a cell: nothing, a value, or something of ours -/
theorem cell_cases (c : Cell) : c = .no ∨ (∃ d, c = .val d) ∨ (∃ l, ownA c = some l) ∨ ∃ l ls rows, c = .mat l ls rows := by
  cases c with
  | no => exact .inl rfl
  | val d => exact .inr (.inl ⟨d, rfl⟩)
  | own l ds => exact .inr (.inr (.inl ⟨l, rfl⟩))
  | ins l k ds => exact .inr (.inr (.inl ⟨l, rfl⟩))
  | mat l ls rows => exact .inr (.inr (.inr ⟨l, ls, rows, rfl⟩))
  | dic l kvs => exact .inr (.inr (.inl ⟨l, rfl⟩))
theorem At.has {G : Gx} {F H : Hp} {c : Cell} {o : Option V} {a : Addr} (h : At G F H c o) (ha : Has c a) : ∃ u, H a = some u ∧ F a = none := by
  rcases cell_cases c with rfl | ⟨d, rfl⟩ | ⟨l, hc⟩ | ⟨l, ls, rows, rfl⟩
  · exact False.elim ha
  · exact False.elim ha
  · obtain ⟨u, _, h1, h2, _⟩ := (at_own hc).mp h
    rw [(has_own hc).mp ha]
    exact ⟨u, h1, h2⟩
  · obtain ⟨_, h1, h2, _, _, hl, h3⟩ := h
    rcases ha with rfl | ha
    · exact ⟨_, h1, h2⟩
    · obtain ⟨j, hj⟩ := List.getElem?_of_mem ha
      have hlt : j < rows.length := by rw [← hl]; exact (List.getElem?_eq_some_iff.mp hj).1
      obtain ⟨vs, q1, q2, _⟩ := h3 j a rows[j] hj (List.getElem?_eq_getElem hlt)
      exact ⟨_, q1, q2⟩
def Owns (cs : List Cell) (l : Addr) : Prop := ∃ (i : Nat) (c : Cell), cs[i]? = some c ∧ Has c l
structure Rel (G : Gx) (F : Hp) (σ : L2.St) (H : Hp) (cs : List Cell) : Prop where
  sub : Same F H
  len : σ.length = cs.length
  cel : ∀ (i : Nat) (c : Cell), cs[i]? = some c → ∃ o, σ[i]? = some o ∧ At G F H c o
  inj : ∀ (l : Addr) (i j : Nat) (c d : Cell), cs[i]? = some c → cs[j]? = some d → Has c l → Has d l → i = j
structure Stp (F H : Hp) (O : Addr → Prop) (F' H' : Hp) (O' : Addr → Prop) : Prop where
  fsub : Same F F'
  frame : ∀ a o, H a = some o → ¬ O a → H' a = some o
  fresh : ∀ a o, F' a = some o → F a = some o ∨ H a = none ∨ O a
  own : ∀ a, O' a → O a ∨ H a = none
  back : ∀ a, H' a = none → H a = none
section
variable {G : Gx} {F F1 F2 F' H H1 H2 H' : Hp} {O O1 O2 : Addr → Prop} {σ : L2.St} {cs cs' : List Cell}
theorem Stp.refl : Stp F H O F H O := ⟨Same.refl F, fun _ _ h _ => h, fun _ _ h => .inl h, fun _ h => .inl h, fun _ h => h⟩
theorem Stp.trans (a : Stp F H O F1 H1 O1) (b : Stp F1 H1 O1 F2 H2 O2) : Stp F H O F2 H2 O2 where
  fsub := a.fsub.trans b.fsub
  frame := fun x o h n => b.frame x o (a.frame x o h n) fun q => by
    rcases a.own x q with z | z
    · exact n z
    · rw [z] at h; cases h
  fresh := fun x o h => by
    rcases b.fresh x o h with z | z | z
    · exact a.fresh x o z
    · exact .inr (.inl (a.back x z))
    · rcases a.own x z with q | q
      · exact .inr (.inr q)
      · exact .inr (.inl q)
  own := fun x h => by
    rcases b.own x h with z | z
    · exact a.own x z
    · exact .inr (a.back x z)
  back := fun x h => a.back x (b.back x h)
/-- nothing owned is touched: the heap and what is known grow -/
structure Grow (F H F' H' : Hp) : Prop where
  fsub : Same F F'
  hsub : Same H H'
  sub : Same F' H'
  fresh : ∀ a o, F' a = some o → F a = some o ∨ H a = none
theorem Grow.refl (h : Same F H) : Grow F H F H := ⟨Same.refl F, Same.refl H, h, fun _ _ h => .inl h⟩
theorem Grow.trans (a : Grow F H F1 H1) (b : Grow F1 H1 F2 H2) : Grow F H F2 H2 :=
  ⟨a.fsub.trans b.fsub, a.hsub.trans b.hsub, b.sub, fun x o h => by
    rcases b.fresh x o h with z | z
    · exact a.fresh x o z
    · exact .inr (a.hsub.free z)⟩
theorem Grow.stp (g : Grow F H F' H') : Stp F H O F' H' O :=
  ⟨g.fsub, fun a o h _ => g.hsub a o h, fun a o h => (g.fresh a o h).imp id .inl, fun _ h => .inl h, fun _ h => g.hsub.free h⟩
/-- a cell as it is, what is known has grown -/
theorem At.mono {c : Cell} {o : Option V} (h : At G F H c o) (e : Same F F') (hl : ∀ l u, Has c l → H l = some u → F l = none → H' l = some u ∧ F' l = none) : At G F' H' c o := by
  rcases cell_cases c with rfl | ⟨d, rfl⟩ | ⟨l, hc⟩ | ⟨l, ls, rows, rfl⟩
  · trivial
  · obtain ⟨v, e1, q⟩ := h
    exact ⟨v, e1, Is.mono e d q⟩
  · obtain ⟨u, e1, h1, h2, h3⟩ := (at_own hc).mp h
    obtain ⟨a1, a2⟩ := hl l u (has_self hc) h1 h2
    exact (at_own hc).mpr ⟨u, e1, a1, a2, h3.mono e⟩
  · obtain ⟨e1, h1, h2, h3, h4, h5, h6⟩ := h
    obtain ⟨a1, a2⟩ := hl l _ (.inl rfl) h1 h2
    refine ⟨e1, a1, a2, h3, h4, h5, fun j a row hj hr => ?_⟩
    obtain ⟨vs, q1, q2, q3⟩ := h6 j a row hj hr
    obtain ⟨b1, b2⟩ := hl a _ (.inr (List.mem_of_getElem? hj)) q1 q2
    exact ⟨vs, b1, b2, IsAll.mono e row q3⟩
theorem Rel.grow (r : Rel G F σ H cs) (g : Grow F H F' H') : Rel G F' σ H' cs where
  sub := g.sub
  len := r.len
  inj := r.inj
  cel := fun i c e => by
    obtain ⟨o, e1, q⟩ := r.cel i c e
    refine ⟨o, e1, q.mono g.fsub fun l u _ h1 h2 => ⟨g.hsub _ _ h1, ?_⟩⟩
    cases z : F' l with
    | none => rfl
    | some u =>
      rcases g.fresh l u z with y | y
      · rw [h2] at y; cases y
      · rw [h1] at y; cases y
theorem Rel.val (r : Rel G F σ H cs) {i : Nat} {d : D} (e : cs[i]? = some (.val d)) : ∃ v, σ[i]? = some (some v) ∧ Is G F d v := by
  obtain ⟨o, e1, v, e2, q⟩ := r.cel i _ e
  subst e2
  exact ⟨v, e1, q⟩
theorem Rel.owned (r : Rel G F σ H cs) {i : Nat} {c : Cell} {l : Addr} (e : cs[i]? = some c) (h : ownA c = some l) : ∃ u, σ[i]? = some (some (.ref l)) ∧ H l = some u ∧ F l = none ∧ Hold G F c u := by
  obtain ⟨o, e1, q⟩ := r.cel i c e
  obtain ⟨u, rfl, h1, h2, h3⟩ := (at_own h).mp q
  exact ⟨u, e1, h1, h2, h3⟩
theorem Rel.own (r : Rel G F σ H cs) {i : Nat} {l : Addr} {ds : List D} (e : cs[i]? = some (.own l ds)) : ∃ vs, σ[i]? = some (some (.ref l)) ∧ H l = some (.lst vs) ∧ F l = none ∧ IsAll G F ds vs := by
  obtain ⟨u, e1, h1, h2, vs, rfl, h3⟩ := r.owned e rfl
  exact ⟨vs, e1, h1, h2, h3⟩
theorem get_set {α : Type} {l : List α} {i j : Nat} {x y : α} (h : (l.set i x)[j]? = some y) : (i = j ∧ y = x ∧ i < l.length) ∨ (i ≠ j ∧ l[j]? = some y) := by
  by_cases e : i = j
  · subst e
    by_cases hi : i < l.length
    · rw [List.getElem?_set_self hi] at h
      cases h
      exact .inl ⟨rfl, rfl, hi⟩
    · rw [List.getElem?_eq_none (by simpa using hi)] at h; cases h
  · rw [List.getElem?_set_ne e] at h
    exact .inr ⟨e, h⟩
theorem inj_free {i : Nat} {c0 : Cell} (h0 : ∀ a, ¬ Has c0 a) (r : Rel G F σ H cs) : ∀ (l : Addr) (a b : Nat) (c d : Cell), (cs.set i c0)[a]? = some c → (cs.set i c0)[b]? = some d → Has c l → Has d l → a = b := fun l a b c d h1 h2 e1 e2 => by
  rcases get_set h1 with ⟨_, z, _⟩ | ⟨_, h1⟩
  · rw [z] at e1; exact absurd e1 (h0 _)
  · rcases get_set h2 with ⟨_, z, _⟩ | ⟨_, h2⟩
    · rw [z] at e2; exact absurd e2 (h0 _)
    · exact r.inj l a b c d h1 h2 e1 e2
/-- a slot is given a value -/
theorem Rel.setVal (r : Rel G F σ H cs) {i : Nat} {d : D} {v : V} (q : Is G F d v) : Rel G F (σ.set i (some v)) H (cs.set i (.val d)) where
  sub := r.sub
  len := by rw [List.length_set, List.length_set]; exact r.len
  inj := inj_free (fun _ h => h) r
  cel := fun j c e => by
    rcases get_set e with ⟨rfl, rfl, hi⟩ | ⟨n, e⟩
    · exact ⟨some v, by rw [List.getElem?_set_self (by rw [r.len]; exact hi)], v, rfl, q⟩
    · obtain ⟨o, e1, q1⟩ := r.cel j c e
      exact ⟨o, by rw [List.getElem?_set_ne n]; exact e1, q1⟩
theorem Rel.setNo (r : Rel G F σ H cs) {i : Nat} {o : Option V} : Rel G F (σ.set i o) H (cs.set i .no) where
  sub := r.sub
  len := by rw [List.length_set, List.length_set]; exact r.len
  inj := inj_free (fun _ h => h) r
  cel := fun j c e => by
    rcases get_set e with ⟨rfl, rfl, hi⟩ | ⟨n, e⟩
    · exact ⟨o, by rw [List.getElem?_set_self (by rw [r.len]; exact hi)], trivial⟩
    · obtain ⟨o, e1, q1⟩ := r.cel j c e
      exact ⟨o, by rw [List.getElem?_set_ne n]; exact e1, q1⟩
/-- forgetting a slot, the slots as they are -/
theorem Rel.forget (r : Rel G F σ H cs) (i : Nat) : Rel G F σ H (cs.set i .no) where
  sub := r.sub
  len := by rw [List.length_set]; exact r.len
  inj := inj_free (fun _ h => h) r
  cel := fun j c e => by
    rcases get_set e with ⟨rfl, rfl, hi⟩ | ⟨n, e⟩
    · exact ⟨σ[i]'(by rw [r.len]; exact hi), List.getElem?_eq_getElem _, trivial⟩
    · exact r.cel j c e
theorem Owns.set {i : Nat} {c : Cell} {a : Addr} (h : Owns (cs.set i c) a) : Owns cs a ∨ Has c a := by
  obtain ⟨j, d, e, q⟩ := h
  rcases get_set e with ⟨_, z, _⟩ | ⟨_, e⟩
  · exact .inr (z ▸ q)
  · exact .inl ⟨j, d, e, q⟩
/-- a slot is given a thing of ours -/
theorem Rel.setCell (r : Rel G F σ H cs) {i : Nat} {l : Addr} {c : Cell} {u : HO} (hc : ownA c = some l) (h1 : H l = some u) (h2 : F l = none) (q : Hold G F c u) (no : ¬ Owns cs l) : Rel G F (σ.set i (some (.ref l))) H (cs.set i c) where
  sub := r.sub
  len := by rw [List.length_set, List.length_set]; exact r.len
  inj := fun l' a b c1 d1 h1 h2 e1 e2 => by
    rcases get_set h1 with ⟨ea, z, _⟩ | ⟨ea, h1⟩
    · rcases get_set h2 with ⟨eb, z2, _⟩ | ⟨eb, h2⟩
      · omega
      · rw [z] at e1
        cases (has_own hc).mp e1
        exact absurd ⟨b, d1, h2, e2⟩ no
    · rcases get_set h2 with ⟨_, z, _⟩ | ⟨_, h2⟩
      · rw [z] at e2
        cases (has_own hc).mp e2
        exact absurd ⟨a, c1, h1, e1⟩ no
      · exact r.inj l' a b c1 d1 h1 h2 e1 e2
  cel := fun j c e => by
    rcases get_set e with ⟨rfl, rfl, hi⟩ | ⟨n, e⟩
    · exact ⟨_, by rw [List.getElem?_set_self (by rw [r.len]; exact hi)], (at_own hc).mpr ⟨u, rfl, h1, h2, q⟩⟩
    · obtain ⟨o, e1, q1⟩ := r.cel j c e
      exact ⟨o, by rw [List.getElem?_set_ne n]; exact e1, q1⟩
theorem Rel.setOwn (r : Rel G F σ H cs) {i : Nat} {l : Addr} {ds : List D} {vs : List V} (h1 : H l = some (.lst vs)) (h2 : F l = none) (q : IsAll G F ds vs) (no : ¬ Owns cs l) : Rel G F (σ.set i (some (.ref l))) H (cs.set i (.own l ds)) := r.setCell rfl h1 h2 ⟨vs, rfl, q⟩ no
/-- a thing of ours is written -/
theorem Rel.put (r : Rel G F σ H cs) {i : Nat} {l : Addr} {c d : Cell} {u : HO} (e : cs[i]? = some c) (hc : ownA c = some l) (hd : ownA d = some l) (q : Hold G F d u) : Rel G F σ (upd H l u) (cs.set i d) where
  sub := fun a o h => by
    obtain ⟨_, _, h1, h2, _⟩ := r.owned e hc
    rw [upd_ne (fun z => by rw [z, h2] at h; cases h)]
    exact r.sub a o h
  len := by rw [List.length_set]; exact r.len
  inj := fun l' a b c1 d1 h1 h2 e1 e2 => by
    have un : ∀ {j : Nat} {c1 : Cell}, (cs.set i d)[j]? = some c1 → Has c1 l' → ∃ c2, cs[j]? = some c2 ∧ Has c2 l' := fun {j c1} h he => by
      rcases get_set h with ⟨rfl, z, _⟩ | ⟨_, h⟩
      · rw [z] at he; cases (has_own hd).mp he; exact ⟨_, e, has_self hc⟩
      · exact ⟨_, h, he⟩
    obtain ⟨_, h1, e1⟩ := un h1 e1
    obtain ⟨_, h2, e2⟩ := un h2 e2
    exact r.inj l' a b _ _ h1 h2 e1 e2
  cel := fun j c1 e' => by
    obtain ⟨_, hs, h1, h2, _⟩ := r.owned e hc
    rcases get_set e' with ⟨rfl, rfl, hi⟩ | ⟨n, e2⟩
    · exact ⟨_, hs, (at_own hd).mpr ⟨u, rfl, upd_same, h2, q⟩⟩
    · obtain ⟨o, e1, q1⟩ := r.cel j c1 e2
      refine ⟨o, e1, q1.mono (Same.refl F) fun l' u' ho a1 a2 => ⟨?_, a2⟩⟩
      have : l' ≠ l := fun z => n (by subst z; exact (r.inj _ _ _ _ _ e e2 (has_self hc) ho))
      rw [upd_ne this]
      exact a1
theorem Rel.write (r : Rel G F σ H cs) {i : Nat} {l : Addr} {ds es : List D} {ws : List V} (e : cs[i]? = some (.own l ds)) (q : IsAll G F es ws) : Rel G F σ (upd H l (.lst ws)) (cs.set i (.own l es)) := r.put e rfl rfl ⟨ws, rfl, q⟩
theorem Owns.of {i : Nat} {l : Addr} {ds : List D} (e : cs[i]? = some (.own l ds)) : Owns cs l := ⟨i, _, e, rfl⟩
theorem Owns.mut {i : Nat} {l a : Addr} {c d : Cell} (e : cs[i]? = some c) (hc : ownA c = some l) (hd : ownA d = some l) : Owns (cs.set i d) a → Owns cs a := fun h => by
  rcases h.set with z | z
  · exact z
  · cases (has_own hd).mp z; exact ⟨i, c, e, has_self hc⟩
theorem Stp.put {i : Nat} {l : Addr} {c d : Cell} {u : HO} (e : cs[i]? = some c) (hc : ownA c = some l) (hd : ownA d = some l) : Stp F H (Owns cs) F (upd H l u) (Owns (cs.set i d)) :=
  ⟨Same.refl F, fun a o h n => by rw [upd_ne (fun z => n (by rw [z]; exact ⟨i, c, e, has_self hc⟩))]; exact h, fun _ _ h => .inl h, fun _ h => .inl (Owns.mut e hc hd h), fun a h => by
    by_cases z : a = l
    · rw [z, upd_same] at h; cases h
    · rw [upd_ne z] at h; exact h⟩
theorem Stp.write {i : Nat} {l : Addr} {ds es : List D} {ws : List V} (e : cs[i]? = some (.own l ds)) : Stp F H (Owns cs) F (upd H l (.lst ws)) (Owns (cs.set i (.own l es))) := Stp.put e rfl rfl
/-- a thing of ours becomes a value -/
theorem Rel.know (r : Rel G F σ H cs) {i : Nat} {l : Addr} {c : Cell} {d : D} {u : HO} (e : cs[i]? = some c) (hc : ownA c = some l) (h1 : H l = some u) (hd : Is G (upd F l u) d (.ref l)) : Rel G (upd F l u) σ H (cs.set i (.val d)) ∧ Stp F H (Owns cs) (upd F l u) H (Owns (cs.set i (.val d))) := by
  obtain ⟨u', hs, h1', h2, h3⟩ := r.owned e hc
  have up : Same F (upd F l u) := fun a o h => by
    rw [upd_ne (fun z => by rw [z, h2] at h; cases h)]; exact h
  refine ⟨⟨fun a o h => ?_, by rw [List.length_set]; exact r.len, fun j c1 e' => ?_, inj_free (fun _ h => h) r⟩, ⟨up, fun _ _ h _ => h, fun a o h => ?_, fun a h => ?_, fun _ h => h⟩⟩
  · by_cases z : a = l
    · subst z; rw [upd_same] at h; cases h; exact h1
    · rw [upd_ne z] at h; exact r.sub a o h
  · rcases get_set e' with ⟨rfl, rfl, hi⟩ | ⟨n, e2⟩
    · exact ⟨_, hs, _, rfl, hd⟩
    · obtain ⟨o, e1, q1⟩ := r.cel j c1 e2
      refine ⟨o, e1, q1.mono up fun l' u2 ho a1 a2 => ⟨a1, ?_⟩⟩
      have : l' ≠ l := fun z => n (by subst z; exact (r.inj _ _ _ _ _ e e2 (has_self hc) ho))
      rw [upd_ne this]
      exact a2
  · by_cases z : a = l
    · exact .inr (.inr (by rw [z]; exact ⟨i, c, e, has_self hc⟩))
    · rw [upd_ne z] at h; exact .inl h
  · rcases h.set with z | z
    · exact .inl z
    · cases z
theorem Rel.freeze (r : Rel G F σ H cs) {i : Nat} {l : Addr} {ds : List D} {vs : List V} (e : cs[i]? = some (.own l ds)) (h1 : H l = some (.lst vs)) : Rel G (upd F l (.lst vs)) σ H (cs.set i (.val (.lst ds))) ∧ Stp F H (Owns cs) (upd F l (.lst vs)) H (Owns (cs.set i (.val (.lst ds)))) := by
  obtain ⟨vs', hs, h1', h2, h3⟩ := r.own e
  rw [h1] at h1'
  cases h1'
  refine r.know e rfl h1 ⟨l, vs, rfl, upd_same, IsAll.mono (fun a o h => ?_) ds h3⟩
  rw [upd_ne (fun z => by rw [z, h2] at h; cases h)]; exact h
theorem Rel.stp_free {i : Nat} {c : Cell} (h0 : ∀ a, ¬ Has c a) : Stp F H (Owns cs) F H (Owns (cs.set i c)) :=
  ⟨Same.refl F, fun _ _ h _ => h, fun _ _ h => .inl h, fun a h => by
    rcases h.set with z | z
    · exact .inl z
    · exact absurd z (h0 _), fun _ h => h⟩
theorem Rel.stp_no (i : Nat) : Stp F H (Owns cs) F H (Owns (cs.set i .no)) := Rel.stp_free fun _ h => h
theorem Rel.stp_val (i : Nat) (d : D) : Stp F H (Owns cs) F H (Owns (cs.set i (.val d))) := Rel.stp_free fun _ h => h
theorem Rel.notOwns (r : Rel G F σ H cs) {l : Addr} (h : H l = none) : ¬ Owns cs l := fun ⟨_, _, e, q⟩ => by
  obtain ⟨o, _, q1⟩ := r.cel _ _ e
  obtain ⟨u, h1, _⟩ := q1.has q
  rw [h] at h1; cases h1
/-- each thing of ours is there but once -/
theorem Rel.once (r : Rel G F σ H cs) {i : Nat} {l : Addr} {c c0 : Cell} (e : cs[i]? = some c) (hc : ownA c = some l) (h0 : ∀ a, ¬ Has c0 a) : ¬ Owns (cs.set i c0) l := fun ⟨j, d, ej, q⟩ => by
  rcases get_set ej with ⟨_, z, _⟩ | ⟨n, ej⟩
  · rw [z] at q; exact absurd q (h0 _)
  · exact n (r.inj _ _ _ _ _ e ej (has_self hc) q)
end
end Fx

/-! What an expression, a test, a statement comes to, told by cells. -/
namespace Fx
open PySem L2

def Ev (G : Gx) (te : TE) (cs : List Cell) (d : D) (cs' : List Cell) : Prop := ∀ (F : Hp) (σ : L2.St) (H : Hp) (Q : VK), Rel G F σ H cs →
  (∀ v F' H', Stp F H (Owns cs) F' H' (Owns cs') → Rel G F' σ H' cs' → Is G F' d v → Q v H') → te σ H Q
/-- .. a new list -/
def EvN (G : Gx) (te : TE) (cs : List Cell) (ds : List D) (cs' : List Cell) : Prop := ∀ (F : Hp) (σ : L2.St) (H : Hp) (Q : VK), Rel G F σ H cs →
  (∀ p vs F' H', Stp F H (Owns cs) F' H' (Owns cs') → Rel G F' σ H' cs' → H p = none → ¬ Owns cs' p → H' p = some (.lst vs) → F' p = none → IsAll G F' ds vs → Q (.ref p) H') → te σ H Q
def EvT (G : Gx) (tt : TT) (cs : List Cell) (b : Bool) (cs' : List Cell) : Prop := ∀ (F : Hp) (σ : L2.St) (H : Hp) (Q : Bool → Hp → Prop), Rel G F σ H cs →
  (∀ F' H', Stp F H (Owns cs) F' H' (Owns cs') → Rel G F' σ H' cs' → Q b H') → tt σ H Q
/-- arguments that are values -/
def EvV (G : Gx) (ta : TA) (cs : List Cell) (ds : List D) (cs' : List Cell) : Prop := ∀ (F : Hp) (σ : L2.St) (H : Hp) (Q : List V → Hp → Prop), Rel G F σ H cs →
  (∀ vs F' H', Stp F H (Owns cs) F' H' (Owns cs') → Rel G F' σ H' cs' → IsAll G F' ds vs → Q vs H') → ta σ H Q
/-- arguments, the first a list of ours -/
def EvP (G : Gx) (ta : TA) (cs : List Cell) (l : Addr) (ds : List D) (cs' : List Cell) : Prop := ∀ (F : Hp) (σ : L2.St) (H : Hp) (Q : List V → Hp → Prop), Rel G F σ H cs →
  (∀ vs F' H', Stp F H (Owns cs) F' H' (Owns cs') → Rel G F' σ H' cs' → IsAll G F' ds vs → Q (.ref l :: vs) H') → ta σ H Q
structure Post where
  nx : List Cell → Prop
  rt : D → List Cell → Prop := fun _ _ => False
  rn : List D → List Cell → Prop := fun _ _ => False
  bk : List Cell → Prop := fun _ => False
  ct : List Cell → Prop := fun _ => False
def Goes (G : Gx) (F H : Hp) (O : Addr → Prop) (p : List Cell → Prop) (k : L2.St → Hp → Prop) : Prop := ∀ cs' σ' F' H', p cs' → Stp F H O F' H' (Owns cs') → Rel G F' σ' H' cs' → k σ' H'
def GoesV (G : Gx) (F H : Hp) (O : Addr → Prop) (p : D → List Cell → Prop) (k : VK) : Prop := ∀ d cs' σ' F' H' v, p d cs' → Stp F H O F' H' (Owns cs') → Rel G F' σ' H' cs' → Is G F' d v → k v H'
def GoesN (G : Gx) (F H : Hp) (O : Addr → Prop) (p : List D → List Cell → Prop) (k : VK) : Prop := ∀ ds cs' σ' F' H' q vs, p ds cs' → Stp F H O F' H' (Owns cs') → Rel G F' σ' H' cs' → (H q = none ∨ O q) → ¬ Owns cs' q → H' q = some (.lst vs) → F' q = none → IsAll G F' ds vs → k (.ref q) H'
def Sx (G : Gx) (ts : TS) (cs : List Cell) (P : Post) : Prop := ∀ (F : Hp) (σ : L2.St) (H : Hp) (E : Ends), Rel G F σ H cs →
  Goes G F H (Owns cs) P.nx E.nx → GoesV G F H (Owns cs) P.rt E.rt → GoesN G F H (Owns cs) P.rn E.rt → Goes G F H (Owns cs) P.bk E.bk → Goes G F H (Owns cs) P.ct E.ct → ts E σ H

section
variable {G : Gx} {F F' H H' : Hp} {O O' : Addr → Prop} {p : List Cell → Prop} {k : L2.St → Hp → Prop}
theorem Goes.after (g : Goes G F H O p k) (s : Stp F H O F' H' O') : Goes G F' H' O' p k := fun cs' σ' F2 H2 hp st r => g cs' σ' F2 H2 hp (s.trans st) r
theorem GoesV.after {p : D → List Cell → Prop} {k : VK} (g : GoesV G F H O p k) (s : Stp F H O F' H' O') : GoesV G F' H' O' p k := fun d cs' σ' F2 H2 v hp st r q => g d cs' σ' F2 H2 v hp (s.trans st) r q
theorem GoesN.after {p : List D → List Cell → Prop} {k : VK} (g : GoesN G F H O p k) (s : Stp F H O F' H' O') : GoesN G F' H' O' p k := fun d cs' σ' F2 H2 v vs hp st r n q1 q2 q3 q4 => g d cs' σ' F2 H2 v vs hp (s.trans st) r (by
  rcases n with n | n
  · exact .inl (s.back v n)
  · rcases s.own v n with z | z
    · exact .inr z
    · exact .inl z) q1 q2 q3 q4
end

/-! ### the text's own readings -/
section
variable (X : Cx)
def rdE (e : Expr) : TE := fun σ H Q => ∀ (pins : List (Addr × Obj)) (s : Shared), Inv X pins σ H s → wpAny (model X.prog X.w) X.A (eval e X.env) (EP X pins σ Q) X.xe s
def rdT (e : Expr) : TT := fun σ H Q => ∀ (pins : List (Addr × Obj)) (s : Shared), Inv X pins σ H s → wpAny (model X.prog X.w) X.A (isTrue e X.env (eval e X.env)) (TP X pins σ Q) X.xe s
def rdA (es : List Expr) : TA := fun σ H Q => ∀ (pos : Pos) (pins : List (Addr × Obj)) (s : Shared), Inv X pins σ H s → wpAny (model X.prog X.w) X.A (spliced (backTo pos (starEach es X.env))) (AP X pins σ Q) X.xe s
def rdS (st : Stmt) : TS := fun D σ H => ∀ (pins : List (Addr × Obj)) (s : Shared), Inv X pins σ H s → wpAny (model X.prog X.w) X.A (exec st X.env) (SP X pins D) X.xe s
def rdSs (st : List Stmt) : TS := fun D σ H => ∀ (pins : List (Addr × Obj)) (s : Shared), Inv X pins σ H s → wpAny (model X.prog X.w) X.A (execs st X.env) (SP X pins D) X.xe s
end
section
variable {X : Cx} {G : Gx} {e : Expr} {es : List Expr} {st : Stmt} {sts : List Stmt} {te : TE} {tt : TT} {ta : TA} {ts : TS} {cs cs' cs1 cs2 : List Cell} {d x y z : D} {ds : List D} {b : Bool} {l : Addr}
theorem pe_rd : PE X e (rdE X e) := ⟨fun pins s _ _ _ I h => h pins s I⟩
theorem pt_rd : PT X e (rdT X e) := ⟨fun pins s _ _ _ I h => h pins s I⟩
theorem pa_rd : PA X es (rdA X es) := ⟨fun pos pins s _ _ _ I h => h pos pins s I⟩
theorem ps_rd : PS X st (rdS X st) := ⟨fun pins s _ _ _ I h => h pins s I⟩
theorem pss_rd : PSs X sts (rdSs X sts) := ⟨fun pins s _ _ _ I h => h pins s I⟩
theorem ev_of (h : PE X e te) (q : Ev G te cs d cs') : Ev G (rdE X e) cs d cs' := fun F σ H Q r k pins s I => h.run pins s σ H Q I (q F σ H Q r k)
theorem evn_of (h : PE X e te) (q : EvN G te cs ds cs') : EvN G (rdE X e) cs ds cs' := fun F σ H Q r k pins s I => h.run pins s σ H Q I (q F σ H Q r k)
theorem evt_of (h : PT X e tt) (q : EvT G tt cs b cs') : EvT G (rdT X e) cs b cs' := fun F σ H Q r k pins s I => h.run pins s σ H Q I (q F σ H Q r k)
theorem evv_of (h : PA X es ta) (q : EvV G ta cs ds cs') : EvV G (rdA X es) cs ds cs' := fun F σ H Q r k pos pins s I => h.run pos pins s σ H Q I (q F σ H Q r k)
theorem evp_of (h : PA X es ta) (q : EvP G ta cs l ds cs') : EvP G (rdA X es) cs l ds cs' := fun F σ H Q r k pos pins s I => h.run pos pins s σ H Q I (q F σ H Q r k)
theorem sx_of {P : Post} (h : PS X st ts) (q : Sx G ts cs P) : Sx G (rdS X st) cs P := fun F σ H D r k1 k2 k3 k4 k5 pins s I => h.run pins s σ H D I (q F σ H D r k1 k2 k3 k4 k5)
theorem sxs_of {P : Post} (h : PSs X sts ts) (q : Sx G ts cs P) : Sx G (rdSs X sts) cs P := fun F σ H D r k1 k2 k3 k4 k5 pins s I => h.run pins s σ H D I (q F σ H D r k1 k2 k3 k4 k5)

/-! ### a new list as a value -/
theorem EvN.ev (h : EvN G te cs ds cs') : Ev G te cs (.lst ds) cs' := fun F σ H Q r k => h F σ H Q r fun p vs F' H' st r' hp no h1 h2 q => by
  have up : Same F' (upd F' p (.lst vs)) := fun a o e => by rw [upd_ne (ne_of_none e h2)]; exact e
  have g : Rel G (upd F' p (.lst vs)) σ H' cs' := by
    refine ⟨fun a o e => ?_, r'.len, fun i c e => ?_, r'.inj⟩
    · by_cases z : a = p
      · subst z; rw [upd_same] at e; cases e; exact h1
      · rw [upd_ne z] at e; exact r'.sub a o e
    · obtain ⟨o, e1, q1⟩ := r'.cel i c e
      refine ⟨o, e1, q1.mono up fun l' u ho a1 a2 => ⟨a1, ?_⟩⟩
      have : l' ≠ p := fun z => no (by subst z; exact ⟨i, c, e, ho⟩)
      rw [upd_ne this]
      exact a2
  refine k (.ref p) (upd F' p (.lst vs)) H' ⟨st.fsub.trans up, st.frame, fun a o e => ?_, st.own, st.back⟩ g ⟨p, vs, rfl, upd_same, IsAll.mono up ds q⟩
  by_cases z : a = p
  · subst z; exact .inr (.inl hp)
  · rw [upd_ne z] at e; exact st.fresh a o e

/-! ### names, constants -/
theorem ev_tVar {i : Nat} (h : cs[i]? = some (.val d)) : Ev G (tVar i) cs d cs := fun F σ H Q r k => by
  obtain ⟨v, e, q⟩ := r.val h
  exact ⟨v, e, k v F H .refl r q⟩
theorem ev_tVarO {i : Nat} (h : cs[i]? = some (.own l ds)) : Ev G (tVar i) cs (.lst ds) (cs.set i (.val (.lst ds))) := fun F σ H Q r k => by
  obtain ⟨vs, e, h1, h2, q⟩ := r.own h
  obtain ⟨r', st⟩ := r.freeze h h1
  have up : Same F (upd F l (.lst vs)) := fun a o e => by rw [upd_ne (ne_of_none e h2)]; exact e
  exact ⟨.ref l, e, k _ _ H st r' ⟨l, vs, rfl, upd_same, IsAll.mono up ds q⟩⟩
theorem ev_tC {v : V} (h : ∀ F, Is G F d v) : Ev G (tC v) cs d cs := fun F σ H Q r k => k v F H .refl r (h F)
theorem ev_var (i : Nat) {n : Str} {pos : Pos} (h : cs[i]? = some (.val d)) (hN : X.N[i]? = some n) (hv : Vis X.env.scope n) (hd : (n == ("__debug__" : Str)) = false := by decide) (hcd : (n == ("__classdict__" : Str)) = false := by decide) :
    Ev G (rdE X (.Name n pos)) cs d cs := ev_of (pe_var hN hv hd hcd) (ev_tVar h)
/-- a list of ours, read as a value: from then on it is one -/
theorem ev_varO (i : Nat) {n : Str} {pos : Pos} (h : cs[i]? = some (.own l ds)) (hN : X.N[i]? = some n) (hv : Vis X.env.scope n) (hd : (n == ("__debug__" : Str)) = false := by decide) (hcd : (n == ("__classdict__" : Str)) = false := by decide) :
    Ev G (rdE X (.Name n pos)) cs (.lst ds) (cs.set i (.val (.lst ds))) := ev_of (pe_var hN hv hd hcd) (ev_tVarO h)
theorem ev_int {i : Int} {j pos} : Ev G (rdE X (.Constant (.int i) j pos)) cs (.int i) cs := ev_of pe_int (ev_tC fun _ => rfl)
theorem ev_str {i : Str} {j pos} : Ev G (rdE X (.Constant (.str i) j pos)) cs (.str i) cs := ev_of pe_str (ev_tC fun _ => rfl)
theorem ev_bl {i : Bool} {j pos} : Ev G (rdE X (.Constant (.bool i) j pos)) cs (.bl i) cs := ev_of pe_bl (ev_tC fun _ => rfl)
theorem ev_non {j pos} : Ev G (rdE X (.Constant .none j pos)) cs .non cs := ev_of pe_non (ev_tC fun _ => rfl)
theorem ev_gstr {n : Str} {i : Str} {pos : Pos} (hg : Gl X n) (hm : ∃ t, X.mg n = some (.str i t)) (hd : (n == ("__debug__" : Str)) = false := by decide) : Ev G (rdE X (.Name n pos)) cs (.str i) cs := by
  obtain ⟨t, hm⟩ := hm
  exact ev_of (pe_glob (v := .str i) hg hm ⟨t, rfl⟩ hd) (ev_tC fun _ => rfl)
theorem ev_gint {n : Str} {i : Int} {pos : Pos} (hg : Gl X n) (hm : ∃ t, X.mg n = some (.int i t)) (hd : (n == ("__debug__" : Str)) = false := by decide) : Ev G (rdE X (.Name n pos)) cs (.int i) cs := by
  obtain ⟨t, hm⟩ := hm
  exact ev_of (pe_glob (v := .int i) hg hm ⟨t, rfl⟩ hd) (ev_tC fun _ => rfl)

/-! ### operators by values -/
def OpD (G : Gx) (r : R2) (x y z : D) : Prop := ∀ (F H : Hp) (v w : V) (Q : VK), Same F H → Is G F x v → Is G F y w → (∀ u F' H', Grow F H F' H' → Is G F' z u → Q u H') → r v w H Q
def OpN (G : Gx) (r : R2) (x y : D) (ds : List D) : Prop := ∀ (F H : Hp) (v w : V) (Q : VK), Same F H → Is G F x v → Is G F y w → (∀ p vs, H p = none → IsAll G F ds vs → Q (.ref p) (upd H p (.lst vs))) → r v w H Q
def UnD (G : Gx) (r : V → Hp → VK → Prop) (x z : D) : Prop := ∀ (F H : Hp) (v : V) (Q : VK), Same F H → Is G F x v → (∀ u F' H', Grow F H F' H' → Is G F' z u → Q u H') → r v H Q
def CallD (G : Gx) (r : List V → Hp → VK → Prop) (ds : List D) (z : D) : Prop := ∀ (F H : Hp) (vs : List V) (Q : VK), Same F H → IsAll G F ds vs → (∀ u F' H', Grow F H F' H' → Is G F' z u → Q u H') → r vs H Q
def CallN (G : Gx) (r : List V → Hp → VK → Prop) (ds es : List D) : Prop := ∀ (F H : Hp) (vs : List V) (Q : VK), Same F H → IsAll G F ds vs → (∀ p vs, H p = none → IsAll G F es vs → Q (.ref p) (upd H p (.lst vs))) → r vs H Q
theorem grow_new {F H : Hp} {p : Addr} {o : HO} (s : Same F H) (hp : H p = none) : Grow F H F (upd H p o) :=
  ⟨Same.refl F, fun a u e => by rw [upd_ne (ne_of_none e hp)]; exact e, fun a u e => by rw [upd_ne (ne_of_none (s a u e) hp)]; exact s a u e, fun _ _ h => .inl h⟩
theorem grow_know {F H : Hp} {p : Addr} {o : HO} (s : Same F H) (hp : H p = none) : Grow F H (upd F p o) (upd H p o) :=
  ⟨fun a u e => by rw [upd_ne (ne_of_none (s a u e) hp)]; exact e, fun a u e => by rw [upd_ne (ne_of_none e hp)]; exact e, fun a u e => by
    by_cases z : a = p
    · subst z; rw [upd_same] at e ⊢; exact e
    · rw [upd_ne z] at e ⊢; exact s a u e, fun a u e => by
    by_cases z : a = p
    · subst z; exact .inr hp
    · rw [upd_ne z] at e; exact .inl e⟩
variable {ta tb tc : TE} {r r' : R2} {a c : Expr} {pos : Pos}
theorem ev_tOp (ha : Ev G ta cs x cs1) (hb : Ev G tb cs1 y cs2) (hr : OpD G r x y z) : Ev G (tOp r ta tb) cs z cs2 := fun F σ H Q rl k =>
  ha F σ H _ rl fun v F1 H1 st1 r1 q1 => hb F1 σ H1 _ r1 fun w F2 H2 st2 r2 q2 => hr F2 H2 v w Q r2.sub (Is.mono st2.fsub x q1) q2 fun u F3 H3 g q3 => k u F3 H3 ((st1.trans st2).trans g.stp) (r2.grow g) q3
theorem evn_new {F H : Hp} {σ : L2.St} {Q : VK} {F2 H2 : Hp} {es : List D} (st : Stp F H (Owns cs) F2 H2 (Owns cs2)) (rl : Rel G F σ H cs) (r2 : Rel G F2 σ H2 cs2)
    (k : ∀ p vs F' H', Stp F H (Owns cs) F' H' (Owns cs2) → Rel G F' σ H' cs2 → H p = none → ¬ Owns cs2 p → H' p = some (.lst vs) → F' p = none → IsAll G F' es vs → Q (.ref p) H') (p : Addr) (vs : List V) (hp : H2 p = none) (q : IsAll G F2 es vs) : Q (.ref p) (upd H2 p (.lst vs)) := by
  have g := grow_new (o := .lst vs) r2.sub hp
  have hp0 : H p = none := st.back p hp
  refine k p vs F2 _ (st.trans g.stp) (r2.grow g) hp0 (r2.notOwns hp) upd_same ?_ q
  cases e : F2 p with
  | none => rfl
  | some u => rw [r2.sub p u e] at hp; cases hp
end
end Fx

/-! Rules: expressions, tests, arguments. -/
namespace Fx
open PySem L2
section
variable {X : Cx} {G : Gx} {e a b c : Expr} {es rest : List Expr} {pos : Pos} {cs cs' cs1 cs2 cs3 : List Cell} {d x y z : D} {ds : List D} {k k1 k2 : Bool} {l : Addr} {r r' : R2} {te ta tb tc : TE} {tA : TA}

theorem evn_tOp (ha : Ev G ta cs x cs1) (hb : Ev G tb cs1 y cs2) (hr : OpN G r x y ds) : EvN G (tOp r ta tb) cs ds cs2 := fun F σ H Q rl k =>
  ha F σ H _ rl fun v F1 H1 st1 r1 q1 => hb F1 σ H1 _ r1 fun w F2 H2 st2 r2 q2 => hr F2 H2 v w Q r2.sub (Is.mono st2.fsub x q1) q2 (evn_new (st1.trans st2) rl r2 k)
theorem ev_bin {op : Operator} (ho : OpR X (binaryOp op) r) (hr : OpD G r x y z) (ha : Ev G (rdE X a) cs x cs1) (hb : Ev G (rdE X b) cs1 y cs2) : Ev G (rdE X (.BinOp a op b pos)) cs z cs2 := ev_of (pe_op ho pe_rd pe_rd) (ev_tOp ha hb hr)
theorem evn_bin {op : Operator} (ho : OpR X (binaryOp op) r) (hr : OpN G r x y ds) (ha : Ev G (rdE X a) cs x cs1) (hb : Ev G (rdE X b) cs1 y cs2) : EvN G (rdE X (.BinOp a op b pos)) cs ds cs2 := evn_of (pe_op ho pe_rd pe_rd) (evn_tOp ha hb hr)
theorem ev_un {op : UnaryOp} {r : V → Hp → VK → Prop} (ho : UnR X (unaryOp op) r) (hr : UnD G r x z) (ha : Ev G (rdE X a) cs x cs1) : Ev G (rdE X (.UnaryOp op a pos)) cs z cs1 :=
  ev_of (pe_un ho pe_rd) fun F σ H Q rl k => ha F σ H _ rl fun v F1 H1 st1 r1 q1 => hr F1 H1 v Q r1.sub q1 fun u F2 H2 g q2 => k u F2 H2 (st1.trans g.stp) (r1.grow g) q2
theorem ev_cmp {op : CmpOp} (ho : OpR X (compareOp op) r) (hr : OpD G r x y z) (ha : Ev G (rdE X a) cs x cs1) (hb : Ev G (rdE X b) cs1 y cs2) (hm : behindInMarks op b = false := by first | exact nomark _ | rfl) : Ev G (rdE X (.Compare a [op] [b] pos)) cs z cs2 :=
  ev_of (pe_cmpR ho pe_rd pe_rd hm) (ev_tOp ha hb hr)
theorem et_tTest (h : Ev G te cs (.bl k) cs1) : EvT G (tTest te) cs k cs1 := fun F σ H Q rl q => h F σ H _ rl fun v F1 H1 st1 r1 q1 => ⟨k, q1, q F1 H1 st1 r1⟩
theorem et_tB (h : Ev G te cs (.bl k) cs1) : EvT G (tB te) cs k cs1 := fun F σ H Q rl q => h F σ H _ rl fun v F1 H1 st1 r1 q1 => ⟨k, q1, q F1 H1 st1 r1⟩
theorem et_cmp {op : CmpOp} (ho : OpR X (compareOp op) r) (hr : OpD G r x y (.bl k)) (ha : Ev G (rdE X a) cs x cs1) (hb : Ev G (rdE X b) cs1 y cs2) (hm : behindInMarks op b = false := by first | exact nomark _ | rfl) : EvT G (rdT X (.Compare a [op] [b] pos)) cs k cs2 :=
  evt_of (pt_cmpR ho pe_rd pe_rd hm) (et_tTest (ev_tOp ha hb hr))
/-- an expression that gives a bool, as a test -/
theorem et_val (h : Ev G (rdE X e) cs (.bl k) cs1) (he : ∀ whole, isTrue e X.env whole = (do let v ← whole; standAt e.pos; holding [v] (truthy v)) := by intro _; rfl) : EvT G (rdT X e) cs k cs1 := evt_of (pt_val pe_rd he) (et_tB h)
theorem et_is (h : EvT G (rdT X e) cs k cs1) (q : k = k1) : EvT G (rdT X e) cs k1 cs1 := q ▸ h
theorem ev_is (h : Ev G te cs x cs1) (q : x = y) : Ev G te cs y cs1 := q ▸ h
theorem evn_is {es : List D} (h : EvN G te cs ds cs1) (q : ds = es) : EvN G te cs es cs1 := q ▸ h
theorem et_not (h : EvT G (rdT X e) cs k cs1) : EvT G (rdT X (.UnaryOp .Not e pos)) cs (!k) cs1 := evt_of (pt_not pt_rd) fun F σ H Q rl q => h F σ H _ rl q
/-! and, or as tests -/
def rdW (X : Cx) (e : Expr) : TT := fun σ H Q => ∀ (whole : Sem Value) (pins : List (Addr × Obj)) (s : Shared), Inv X pins σ H s → wpAny (model X.prog X.w) X.A (isTrue e X.env whole) (TP X pins σ Q) X.xe s
theorem pw_rd : PW X e (rdW X e) := ⟨fun wh pins s _ _ _ I h => h wh pins s I⟩
theorem ew_of {tt : TT} (h : PW X e tt) (q : EvT G tt cs k cs') : EvT G (rdW X e) cs k cs' := fun F σ H Q r kk wh pins s I => h.run wh pins s σ H Q I (q F σ H Q r kk)
theorem et_w (h : EvT G (rdW X e) cs k cs1) : EvT G (rdT X e) cs k cs1 := evt_of pw_rd.pt h
theorem ew_and1 (h : EvT G (rdT X a) cs k cs1) : EvT G (rdW X (.BoolOp .And [a] pos)) cs k cs1 := ew_of (pw_and1 pt_rd) h
theorem ew_or1 (h : EvT G (rdT X a) cs k cs1) : EvT G (rdW X (.BoolOp .Or [a] pos)) cs k cs1 := ew_of (pw_or1 pt_rd) h
theorem ew_andT (h : EvT G (rdT X a) cs true cs1) (h2 : EvT G (rdW X (.BoolOp .And (b :: rest) pos)) cs1 k cs2) : EvT G (rdW X (.BoolOp .And (a :: b :: rest) pos)) cs k cs2 :=
  ew_of (pw_and pt_rd pw_rd) fun F σ H Q rl q => h F σ H _ rl fun F1 H1 st1 r1 => iteT (h2 F1 σ H1 _ r1 fun F2 H2 st2 r2 => q F2 H2 (st1.trans st2) r2)
theorem ew_andF (h : EvT G (rdT X a) cs false cs1) : EvT G (rdW X (.BoolOp .And (a :: b :: rest) pos)) cs false cs1 :=
  ew_of (pw_and (tB' := rdW X (.BoolOp .And (b :: rest) pos)) pt_rd pw_rd) fun F σ H Q rl q => h F σ H _ rl fun F1 H1 st1 r1 => iteF (q F1 H1 st1 r1)
theorem ew_and (h : EvT G (rdT X a) cs k1 cs1) (h2 : k1 = true → EvT G (rdW X (.BoolOp .And (b :: rest) pos)) cs1 k2 cs1) : EvT G (rdW X (.BoolOp .And (a :: b :: rest) pos)) cs (k1 && k2) cs1 := by
  cases k1 with
  | true => exact ew_andT h (h2 rfl)
  | false => exact ew_andF h
theorem ew_orT (h : EvT G (rdT X a) cs true cs1) : EvT G (rdW X (.BoolOp .Or (a :: b :: rest) pos)) cs true cs1 :=
  ew_of (pw_or (tB' := rdW X (.BoolOp .Or (b :: rest) pos)) pt_rd pw_rd) fun F σ H Q rl q => h F σ H _ rl fun F1 H1 st1 r1 => iteT (q F1 H1 st1 r1)
theorem ew_orF (h : EvT G (rdT X a) cs false cs1) (h2 : EvT G (rdW X (.BoolOp .Or (b :: rest) pos)) cs1 k cs2) : EvT G (rdW X (.BoolOp .Or (a :: b :: rest) pos)) cs k cs2 :=
  ew_of (pw_or pt_rd pw_rd) fun F σ H Q rl q => h F σ H _ rl fun F1 H1 st1 r1 => iteF (h2 F1 σ H1 _ r1 fun F2 H2 st2 r2 => q F2 H2 (st1.trans st2) r2)
theorem ew_or (h : EvT G (rdT X a) cs k1 cs1) (h2 : k1 = false → EvT G (rdW X (.BoolOp .Or (b :: rest) pos)) cs1 k2 cs1) : EvT G (rdW X (.BoolOp .Or (a :: b :: rest) pos)) cs (k1 || k2) cs1 := by
  cases k1 with
  | false => exact ew_orF h (h2 rfl)
  | true => exact ew_orT h
/-! and, or, not as values -/
theorem ev_one {op} (h : Ev G (rdE X a) cs x cs1) : Ev G (rdE X (.BoolOp op [a] pos)) cs x cs1 := ev_of (pe_one pe_rd) h
theorem ev_andT (h : Ev G (rdE X a) cs (.bl true) cs1) (h2 : Ev G (rdE X (.BoolOp .And (b :: rest) pos)) cs1 x cs2) : Ev G (rdE X (.BoolOp .And (a :: b :: rest) pos)) cs x cs2 :=
  ev_of (pe_and pe_rd pe_rd) fun F σ H Q rl q => h F σ H _ rl fun v F1 H1 st1 r1 q1 => ⟨true, q1, iteT (h2 F1 σ H1 _ r1 fun w F2 H2 st2 r2 q2 => q w F2 H2 (st1.trans st2) r2 q2)⟩
theorem ev_andF (h : Ev G (rdE X a) cs (.bl false) cs1) : Ev G (rdE X (.BoolOp .And (a :: b :: rest) pos)) cs (.bl false) cs1 :=
  ev_of (pe_and (tb := rdE X (.BoolOp .And (b :: rest) pos)) pe_rd pe_rd) fun F σ H Q rl q => h F σ H _ rl fun v F1 H1 st1 r1 q1 => ⟨false, q1, iteF (q _ F1 H1 st1 r1 rfl)⟩
theorem ev_and (h : Ev G (rdE X a) cs (.bl k1) cs1) (h2 : k1 = true → Ev G (rdE X (.BoolOp .And (b :: rest) pos)) cs1 (.bl k2) cs1) : Ev G (rdE X (.BoolOp .And (a :: b :: rest) pos)) cs (.bl (k1 && k2)) cs1 := by
  cases k1 with
  | true => exact ev_andT h (h2 rfl)
  | false => exact ev_andF h
theorem ev_orT (h : Ev G (rdE X a) cs (.bl true) cs1) : Ev G (rdE X (.BoolOp .Or (a :: b :: rest) pos)) cs (.bl true) cs1 :=
  ev_of (pe_or (tb := rdE X (.BoolOp .Or (b :: rest) pos)) pe_rd pe_rd) fun F σ H Q rl q => h F σ H _ rl fun v F1 H1 st1 r1 q1 => ⟨true, q1, iteT (q _ F1 H1 st1 r1 rfl)⟩
theorem ev_orF (h : Ev G (rdE X a) cs (.bl false) cs1) (h2 : Ev G (rdE X (.BoolOp .Or (b :: rest) pos)) cs1 x cs2) : Ev G (rdE X (.BoolOp .Or (a :: b :: rest) pos)) cs x cs2 :=
  ev_of (pe_or pe_rd pe_rd) fun F σ H Q rl q => h F σ H _ rl fun v F1 H1 st1 r1 q1 => ⟨false, q1, iteF (h2 F1 σ H1 _ r1 fun w F2 H2 st2 r2 q2 => q w F2 H2 (st1.trans st2) r2 q2)⟩
theorem ev_or (h : Ev G (rdE X a) cs (.bl k1) cs1) (h2 : k1 = false → Ev G (rdE X (.BoolOp .Or (b :: rest) pos)) cs1 (.bl k2) cs1) : Ev G (rdE X (.BoolOp .Or (a :: b :: rest) pos)) cs (.bl (k1 || k2)) cs1 := by
  cases k1 with
  | false => exact ev_orF h (h2 rfl)
  | true => exact ev_orT h
theorem ev_not (h : Ev G (rdE X a) cs (.bl k) cs1) : Ev G (rdE X (.UnaryOp .Not a pos)) cs (.bl (!k)) cs1 :=
  ev_of (pe_not pe_rd) fun F σ H Q rl q => h F σ H _ rl fun v F1 H1 st1 r1 q1 => ⟨k, q1, q _ F1 H1 st1 r1 rfl⟩
theorem ev_ifT (h : EvT G (rdT X c) cs true cs1) (h2 : Ev G (rdE X a) cs1 x cs2) : Ev G (rdE X (.IfExp c a b pos)) cs x cs2 :=
  ev_of (pe_ifExp (tb := rdE X b) pt_rd pe_rd pe_rd) fun F σ H Q rl q => h F σ H _ rl fun F1 H1 st1 r1 => iteT (h2 F1 σ H1 _ r1 fun w F2 H2 st2 r2 q2 => q w F2 H2 (st1.trans st2) r2 q2)
theorem ev_ifF (h : EvT G (rdT X c) cs false cs1) (h2 : Ev G (rdE X b) cs1 x cs2) : Ev G (rdE X (.IfExp c a b pos)) cs x cs2 :=
  ev_of (pe_ifExp (ta := rdE X a) pt_rd pe_rd pe_rd) fun F σ H Q rl q => h F σ H _ rl fun F1 H1 st1 r1 => iteF (h2 F1 σ H1 _ r1 fun w F2 H2 st2 r2 q2 => q w F2 H2 (st1.trans st2) r2 q2)
theorem ev_if (h : EvT G (rdT X c) cs k cs1) (h1 : k = true → Ev G (rdE X a) cs1 x cs2) (h2 : k = false → Ev G (rdE X b) cs1 x cs2) : Ev G (rdE X (.IfExp c a b pos)) cs x cs2 := by
  cases k with
  | true => exact ev_ifT h (h1 rfl)
  | false => exact ev_ifF h (h2 rfl)
theorem evn_if (h : EvT G (rdT X c) cs k cs1) (h1 : k = true → EvN G (rdE X a) cs1 ds cs2) (h2 : k = false → EvN G (rdE X b) cs1 ds cs2) : EvN G (rdE X (.IfExp c a b pos)) cs ds cs2 :=
  evn_of (pe_ifExp pt_rd pe_rd pe_rd) fun F σ H Q rl q => h F σ H _ rl fun F1 H1 st1 r1 => by
    cases k with
    | true => exact iteT (h1 rfl F1 σ H1 _ r1 fun p vs F2 H2 st2 r2 hp => q p vs F2 H2 (st1.trans st2) r2 (st1.back p hp))
    | false => exact iteF (h2 rfl F1 σ H1 _ r1 fun p vs F2 H2 st2 r2 hp => q p vs F2 H2 (st1.trans st2) r2 (st1.back p hp))
/-- x <= y <= z -/
theorem ev_chain {op op' : CmpOp} {w : D} (ho : OpR X (compareOp op) r) (ho' : OpR X (compareOp op') r') (hr : OpD G r x y (.bl k)) (hr' : k = true → OpD G r' y w (.bl k1)) (ha : Ev G (rdE X a) cs x cs1) (hb : Ev G (rdE X b) cs1 y cs2) (hc : k = true → Ev G (rdE X c) cs2 w cs2) (hpe : ∀ {t1 t2 t3 : TE}, PE X a t1 → PE X b t2 → PE X c t3 → PE X (.Compare a [op, op'] [b, c] pos) (tChain r r' t1 t2 t3)) :
    Ev G (rdE X (.Compare a [op, op'] [b, c] pos)) cs (.bl (k && k1)) cs2 :=
  ev_of (hpe pe_rd pe_rd pe_rd) fun F σ H Q rl q => ha F σ H _ rl fun v F1 H1 st1 r1 q1 => hb F1 σ H1 _ r1 fun w1 F2 H2 st2 r2 q2 => hr F2 H2 v w1 _ r2.sub (Is.mono st2.fsub x q1) q2 fun u F3 H3 g q3 => by
    have r3 := r2.grow g
    refine ⟨k, q3, ?_⟩
    cases k with
    | true =>
      exact iteT (hc rfl F3 σ H3 _ r3 fun w2 F4 H4 st4 r4 q4 => hr' rfl F4 H4 w1 w2 Q r4.sub (Is.mono (g.fsub.trans st4.fsub) y q2) q4 fun u F5 H5 g5 q5 => q u F5 H5 (((st1.trans st2).trans g.stp).trans (st4.trans g5.stp)) (r4.grow g5) q5)
    | false => exact iteF (q _ F3 H3 ((st1.trans st2).trans g.stp) r3 rfl)

/-! ### arguments -/
theorem evv_nil : EvV G (rdA X []) cs [] cs := evv_of pa_nil fun F σ H Q rl q => q [] F H .refl rl rfl
theorem evv_cons (h : Ev G (rdE X e) cs x cs1) (h2 : EvV G (rdA X es) cs1 ds cs2) (hs : starEach (e :: es) X.env = (false, eval e X.env) :: starEach es X.env := by rfl) : EvV G (rdA X (e :: es)) cs (x :: ds) cs2 :=
  evv_of (pa_cons pe_rd pa_rd hs) fun F σ H Q rl q => h F σ H _ rl fun v F1 H1 st1 r1 q1 => h2 F1 σ H1 _ r1 fun vs F2 H2 st2 r2 q2 => q _ F2 H2 (st1.trans st2) r2 ⟨v, vs, rfl, Is.mono st2.fsub x q1, q2⟩
/-- the first argument a list of ours, by its name -/
theorem evp_cons {i : Nat} {n : Str} {np : Pos} (h : cs[i]? = some (.own l ds)) (hN : X.N[i]? = some n) (hv : Vis X.env.scope n) {es' : List D} (h2 : EvV G (rdA X es) cs es' cs2) (hd : (n == ("__debug__" : Str)) = false := by decide) (hcd : (n == ("__classdict__" : Str)) = false := by decide)
    (hs : starEach (.Name n np :: es) X.env = (false, eval (.Name n np) X.env) :: starEach es X.env := by rfl) : EvP G (rdA X (.Name n np :: es)) cs l es' cs2 :=
  evp_of (pa_cons (pe_var hN hv hd hcd) pa_rd hs) fun F σ H Q rl q => by
    obtain ⟨vs, e1, _⟩ := rl.own h
    exact ⟨.ref l, e1, h2 F σ H _ rl fun vs F2 H2 st2 r2 q2 => q vs F2 H2 st2 r2 q2⟩
/-- a starred argument -/
theorem evv_star {sp : Pos} (h : Ev G (rdE X e) cs x cs1) (h2 : EvV G (rdA X es) cs1 ds cs2) {xs : List D} (hx : x = .lst xs ∨ x = .tup xs) (hK : G.K = X.K := by rfl) (hs : starEach (.Starred e sp :: es) X.env = (true, eval e X.env) :: starEach es X.env := by rfl) :
    EvV G (rdA X (.Starred e sp :: es)) cs (xs ++ ds) cs2 :=
  evv_of (StX.pa_star pe_rd pa_rd hs) fun F σ H Q rl q => h F σ H _ rl fun v F1 H1 st1 r1 q1 => by
    have z : ∃ a vs, v = V.ref a ∧ (SqT X.K H1 a vs ∨ SqL X.K H1 a vs) ∧ IsAll G F1 xs vs := by
      rcases hx with rfl | rfl
      · obtain ⟨a, vs, rfl, h1, h2⟩ := q1
        exact ⟨a, vs, rfl, .inr (SqL.of (r1.sub _ _ h1)), h2⟩
      · obtain ⟨a, vs, rfl, h1, h2⟩ := q1
        exact ⟨a, vs, rfl, .inl (by rw [← hK]; exact same_t r1.sub h1), h2⟩
    obtain ⟨a, vs, rfl, hq, hall⟩ := z
    exact ⟨a, vs, rfl, hq, h2 F1 σ H1 _ r1 fun ws F2 H2 st2 r2 q2 => q _ F2 H2 (st1.trans st2) r2 ((IsAll.mono st2.fsub xs hall).append q2)⟩

/-! ### displays -/
theorem ev_tup {x1} (h : EvV G (rdA X es) cs ds cs1) (hz : Nat.ble ds.length 1000 = true) : Ev G (rdE X (.Tuple es x1 pos)) cs (.tup ds) cs1 :=
  ev_of (pe_tup pa_rd) fun F σ H Q rl q => h F σ H _ rl fun vs F1 H1 st1 r1 q1 => ⟨by
    rw [q1.length]
    exact Nat.le_trans (Nat.le_of_ble_eq_true hz) (by decide), fun p hp => by
    have g := grow_know (o := .tup vs) r1.sub hp
    exact q _ _ _ (st1.trans g.stp) (r1.grow g) ⟨p, vs, rfl, SqT.of upd_same, IsAll.mono g.fsub ds q1⟩⟩
theorem evn_lst (h : EvV G (rdA X es) cs ds cs1) (hz : Nat.ble ds.length 1000 = true) : EvN G (rdE X (.List es pos)) cs ds cs1 :=
  evn_of (pe_lst pa_rd) fun F σ H Q rl q => h F σ H _ rl fun vs F1 H1 st1 r1 q1 => ⟨by
    rw [q1.length]
    exact Nat.le_trans (Nat.le_of_ble_eq_true hz) (by decide), fun p hp => evn_new st1 rl r1 q p vs hp q1⟩

/-! ### built-ins -/
theorem ev_callB {n : Str} {np : Pos} {id : String} {rr : List V → Hp → VK → Prop} (hc : CallR X (.builtin id) rr) (hr : CallD G rr ds z) (ha : EvV G (rdA X (e :: es)) cs ds cs1) (hg : Gl X n) (hm : X.mg n = none) (hv : bootBuiltins n = some (.builtin id)) (hn : n ≠ "__name__" := by decide) (hdb : (n == ("__debug__" : Str)) = false := by decide)
    (he : starEach (e :: es) X.env = (false, eval e X.env) :: starEach es X.env := by rfl) (hpl : (backTo pos (starEach es X.env)).any (·.1) = false := by rfl) : Ev G (rdE X (.Call (.Name n np) (e :: es) [] pos)) cs z cs1 :=
  ev_of (pe_callB hc hg hm hv pa_rd hn hdb he hpl) fun F σ H Q rl q => ha F σ H _ rl fun vs F1 H1 st1 r1 q1 => hr F1 H1 vs Q r1.sub q1 fun u F2 H2 g q2 => q u F2 H2 (st1.trans g.stp) (r1.grow g) q2
theorem evn_callB {n : Str} {np : Pos} {id : String} {rr : List V → Hp → VK → Prop} {es' : List D} (hc : CallR X (.builtin id) rr) (hr : CallN G rr ds es') (ha : EvV G (rdA X (e :: es)) cs ds cs1) (hg : Gl X n) (hm : X.mg n = none) (hv : bootBuiltins n = some (.builtin id)) (hn : n ≠ "__name__" := by decide) (hdb : (n == ("__debug__" : Str)) = false := by decide)
    (he : starEach (e :: es) X.env = (false, eval e X.env) :: starEach es X.env := by rfl) (hpl : (backTo pos (starEach es X.env)).any (·.1) = false := by rfl) : EvN G (rdE X (.Call (.Name n np) (e :: es) [] pos)) cs es' cs1 :=
  evn_of (pe_callB hc hg hm hv pa_rd hn hdb he hpl) fun F σ H Q rl q => ha F σ H _ rl fun vs F1 H1 st1 r1 q1 => hr F1 H1 vs Q r1.sub q1 (evn_new st1 rl r1 q)
theorem ev_callTy {n : Str} {np : Pos} {T : String} {rr : List V → Hp → VK → Prop} (hc : CallR X (.type T) rr) (hr : CallD G rr ds z) (ha : EvV G (rdA X (e :: es)) cs ds cs1) (hg : Gl X n) (hm : X.mg n = none) (hv : bootBuiltins n = some (.type T)) (hn : n ≠ "__name__" := by decide) (hdb : (n == ("__debug__" : Str)) = false := by decide)
    (he : starEach (e :: es) X.env = (false, eval e X.env) :: starEach es X.env := by rfl) (hpl : (backTo pos (starEach es X.env)).any (·.1) = false := by rfl) : Ev G (rdE X (.Call (.Name n np) (e :: es) [] pos)) cs z cs1 :=
  ev_of (pe_callTy hc hg hm hv pa_rd hn hdb he hpl) fun F σ H Q rl q => ha F σ H _ rl fun vs F1 H1 st1 r1 q1 => hr F1 H1 vs Q r1.sub q1 fun u F2 H2 g q2 => q u F2 H2 (st1.trans g.stp) (r1.grow g) q2
theorem evn_callTy {n : Str} {np : Pos} {T : String} {rr : List V → Hp → VK → Prop} {es' : List D} (hc : CallR X (.type T) rr) (hr : CallN G rr ds es') (ha : EvV G (rdA X (e :: es)) cs ds cs1) (hg : Gl X n) (hm : X.mg n = none) (hv : bootBuiltins n = some (.type T)) (hn : n ≠ "__name__" := by decide) (hdb : (n == ("__debug__" : Str)) = false := by decide)
    (he : starEach (e :: es) X.env = (false, eval e X.env) :: starEach es X.env := by rfl) (hpl : (backTo pos (starEach es X.env)).any (·.1) = false := by rfl) : EvN G (rdE X (.Call (.Name n np) (e :: es) [] pos)) cs es' cs1 :=
  evn_of (pe_callTy hc hg hm hv pa_rd hn hdb he hpl) fun F σ H Q rl q => ha F σ H _ rl fun vs F1 H1 st1 r1 q1 => hr F1 H1 vs Q r1.sub q1 (evn_new st1 rl r1 q)

/-! ### subscripts, slices -/
theorem ev_ix (ho : IxR X r) (hr : OpD G r x y z) (ha : Ev G (rdE X a) cs x cs1) (hb : Ev G (rdE X b) cs1 y cs2) (hs : PlainIx b := by exact fun _ _ => rfl) : Ev G (rdE X (.Subscript a b pos)) cs z cs2 := ev_of (pe_ix ho pe_rd pe_rd hs) (ev_tOp ha hb hr)
def EvS (G : Gx) (to : TO) (cs : List Cell) (o : Option Int) (cs' : List Cell) : Prop := ∀ (F : Hp) (σ : L2.St) (H : Hp) (Q : Option Int → Hp → Prop), Rel G F σ H cs →
  (∀ F' H', Stp F H (Owns cs) F' H' (Owns cs') → Rel G F' σ H' cs' → Q o H') → to σ H Q
theorem es_none : EvS G tNoPart cs none cs := fun F σ H Q rl q => q F H .refl rl
theorem es_some {i : Int} (h : Ev G te cs (.int i) cs1) : EvS G (tPart te) cs (some i) cs1 := fun F σ H Q rl q => h F σ H _ rl fun v F1 H1 st1 r1 q1 => ⟨i, q1, q F1 H1 st1 r1⟩
theorem evn_slice {lo hi : Option Expr} {p2 : Pos} {tl th : TO} {ol oh : Option Int} {xs : List D} (hl : PO X lo tl) (hh : PO X hi th) (h : Ev G (rdE X e) cs (.lst xs) cs1) (h1 : EvS G tl cs1 ol cs2) (h2 : EvS G th cs2 oh cs3) :
    EvN G (rdE X (.Subscript e (.Slice lo hi none p2) pos)) cs ((xs.drop (HT.sIx xs.length 0 ol)).take (HT.sIx xs.length xs.length oh - HT.sIx xs.length 0 ol)) cs3 :=
  evn_of (pe_slice sl_list pe_rd hl hh) fun F σ H Q rl q => h F σ H _ rl fun v F1 H1 st1 r1 q1 => h1 F1 σ H1 _ r1 fun F2 H2 st2 r2 => h2 F2 σ H2 _ r2 fun F3 H3 st3 r3 => by
    obtain ⟨a, vs, rfl, h5, h6⟩ := q1
    have up := st2.fsub.trans st3.fsub
    refine ⟨a, vs, rfl, SqL.of (r3.sub _ _ (up _ _ h5)), fun p hp => ?_⟩
    have hl := h6.length
    refine evn_new ((st1.trans st2).trans st3) rl r3 q p _ hp ?_
    unfold cutV
    rw [hl]
    exact IsAll.take _ (IsAll.drop _ (IsAll.mono up xs h6))
end
end Fx

/-! Rules: statements, targets, loops, comprehensions. -/
namespace Fx
open PySem L2
/-- a target is given a value -/
def EvG (G : Gx) (g : TG) (tl : List Nat) (d : D) (cs cs' : List Cell) : Prop := ∀ (F : Hp) (σ : L2.St) (H : Hp) (v : V) (Q : L2.St → Hp → Prop), Rel G F σ H cs → Is G F d v →
  (∀ σ', Stp F H (Owns cs) F H (Owns cs') → Rel G F σ' H cs' → (σ'.length = σ.length ∧ ∀ j, j ∉ tl → σ'[j]? = σ[j]?) → Q σ' H) → g v σ H Q
def EvGs (G : Gx) (g : TGs) (tl : List Nat) (ds : List D) (cs cs' : List Cell) : Prop := ∀ (F : Hp) (σ : L2.St) (H : Hp) (vs : List V) (Q : L2.St → Hp → Prop), Rel G F σ H cs → IsAll G F ds vs →
  (∀ σ', Stp F H (Owns cs) F H (Owns cs') → Rel G F σ' H cs' → (σ'.length = σ.length ∧ ∀ j, j ∉ tl → σ'[j]? = σ[j]?) → Q σ' H) → g vs σ H Q
/-- what is walked -/
def ItD (G : Gx) (J : It) (F : Hp) (its : List D) : Prop := ∀ F1 H1, Same F F1 → Same F1 H1 →
  (∀ (i : Nat) (d : D), its[i]? = some d → J.go i H1 ∧ ∀ x H2, J.yld i H1 x H2 → ∃ F2, Grow F1 H1 F2 H2 ∧ Is G F2 d x) ∧ J.stop its.length H1
def EvI (G : Gx) (wi : TI) (cs : List Cell) (its : List D) (cs' : List Cell) : Prop := ∀ (F : Hp) (σ : L2.St) (H : Hp) (R : It → Hp → Prop), Rel G F σ H cs →
  (∀ J F' H', Stp F H (Owns cs) F' H' (Owns cs') → Rel G F' σ H' cs' → ItD G J F' its → R J H') → wi σ H R
section
variable {X : Cx} {G : Gx} {e a b c tg iter : Expr} {es : List Expr} {st : Stmt} {sts body : List Stmt} {pos : Pos} {cs cs' cs1 cs2 cs3 : List Cell} {d x y z : D} {ds : List D} {k : Bool} {l : Addr} {P : Post} {tl : List Nat}

/-! ### blocks -/
theorem sx_nil (h : P.nx cs) : Sx G (rdSs X []) cs P := sxs_of pss_nil fun F σ H E rl k1 _ _ _ _ => k1 cs σ F H h .refl rl
theorem sx_cons (h : Sx G (rdS X st) cs { P with nx := fun cs' => Sx G (rdSs X sts) cs' P }) : Sx G (rdSs X (st :: sts)) cs P :=
  sxs_of (pss_cons ps_rd pss_rd) fun F σ H E rl k1 k2 k3 k4 k5 => h F σ H { E with nx := rdSs X sts E } rl (fun cs' σ' F' H' hp st r => hp F' σ' H' E r (k1.after st) (k2.after st) (k3.after st) (k4.after st) (k5.after st)) k2 k3 k4 k5
theorem sx_one (h : Sx G (rdS X st) cs P) : Sx G (rdSs X [st]) cs P := sxs_of (pss_one ps_rd) h
theorem sx_last (h : Sx G (rdS X st) cs { P with nx := fun cs' => P.nx cs' }) : Sx G (rdSs X [st]) cs P := sx_one h
theorem sx_pass (h : P.nx cs) : Sx G (rdS X (.Pass pos)) cs P := sx_of ps_pass fun F σ H E rl k1 _ _ _ _ => k1 cs σ F H h .refl rl
theorem sx_break (h : P.bk cs) : Sx G (rdS X (.Break pos)) cs P := sx_of ps_break fun F σ H E rl _ _ _ k4 _ => k4 cs σ F H h .refl rl
theorem sx_continue (h : P.ct cs) : Sx G (rdS X (.Continue pos)) cs P := sx_of ps_continue fun F σ H E rl _ _ _ _ k5 => k5 cs σ F H h .refl rl
theorem sx_expr (h : Ev G (rdE X e) cs d cs1) (hp : P.nx cs1) (hs : swapsWith e none pos.line X.env = pure false := by rfl) : Sx G (rdS X (.Expr e pos)) cs P :=
  sx_of (ps_expr pe_rd hs) fun F σ H E rl k1 _ _ _ _ => h F σ H _ rl fun v F1 H1 st1 r1 _ => k1 cs1 σ F1 H1 hp st1 r1
theorem sx_ret (h : Ev G (rdE X e) cs d cs1) (hp : P.rt d cs1) : Sx G (rdS X (.Return (some e) pos)) cs P :=
  sx_of (ps_ret pe_rd) fun F σ H E rl _ k2 _ _ _ => h F σ H _ rl fun v F1 H1 st1 r1 q1 => k2 d cs1 σ F1 H1 v hp st1 r1 q1
theorem sx_retN (h : EvN G (rdE X e) cs ds cs1) (hp : P.rn ds cs1) : Sx G (rdS X (.Return (some e) pos)) cs P :=
  sx_of (ps_ret pe_rd) fun F σ H E rl _ _ k3 _ _ => h F σ H _ rl fun p vs F1 H1 st1 r1 q0 q1 q2 q3 q4 => k3 ds cs1 σ F1 H1 p vs hp st1 r1 (.inl q0) q1 q2 q3 q4
/-- a list of ours is handed back -/
theorem sx_retO (i : Nat) {n : Str} {np : Pos} (h : cs[i]? = some (.own l ds)) (hp : P.rn ds (cs.set i .no)) (hN : X.N[i]? = some n) (hv : Vis X.env.scope n) (hd : (n == ("__debug__" : Str)) = false := by decide) (hcd : (n == ("__classdict__" : Str)) = false := by decide) :
    Sx G (rdS X (.Return (some (.Name n np)) pos)) cs P :=
  sx_of (ps_ret (pe_var hN hv hd hcd)) fun F σ H E rl _ _ k3 _ _ => by
    obtain ⟨vs, e1, h1, h2, q⟩ := rl.own h
    exact ⟨.ref l, e1, k3 ds (cs.set i .no) σ F H l vs hp (Rel.stp_no i) (rl.forget i) (.inr (.of h)) (rl.once h rfl fun _ h => h) h1 h2 q⟩
theorem sx_ret0 (hp : P.rt .non cs) : Sx G (rdS X (.Return none pos)) cs P := sx_of ps_retN fun F σ H E rl _ k2 _ _ _ => k2 .non cs σ F H .non hp .refl rl rfl
theorem sx_if {s1 s2 : List Stmt} (h : EvT G (rdT X c) cs k cs1) (h1 : k = true → Sx G (rdSs X s1) cs1 P) (h2 : k = false → Sx G (rdSs X s2) cs1 P) : Sx G (rdS X (.If c s1 s2 pos)) cs P :=
  sx_of (ps_if pt_rd pss_rd pss_rd) fun F σ H E rl k1 k2 k3 k4 k5 => h F σ H _ rl fun F1 H1 st r1 => by
    cases k with
    | true => exact iteT (h1 rfl F1 σ H1 E r1 (k1.after st) (k2.after st) (k3.after st) (k4.after st) (k5.after st))
    | false => exact iteF (h2 rfl F1 σ H1 E r1 (k1.after st) (k2.after st) (k3.after st) (k4.after st) (k5.after st))
theorem sx_post {P' : Post} {ts : TS} (h : Sx G ts cs P) (n : ∀ c, P.nx c → P'.nx c) (r : ∀ d c, P.rt d c → P'.rt d c) (rn : ∀ d c, P.rn d c → P'.rn d c) (bk : ∀ c, P.bk c → P'.bk c) (ct : ∀ c, P.ct c → P'.ct c) : Sx G ts cs P' := fun F σ H E rl k1 k2 k3 k4 k5 =>
  h F σ H E rl (fun cs' σ' F' H' hp => k1 cs' σ' F' H' (n _ hp)) (fun d cs' σ' F' H' v hp => k2 d cs' σ' F' H' v (r _ _ hp)) (fun d cs' σ' F' H' q vs hp => k3 d cs' σ' F' H' q vs (rn _ _ hp)) (fun cs' σ' F' H' hp => k4 cs' σ' F' H' (bk _ hp)) (fun cs' σ' F' H' hp => k5 cs' σ' F' H' (ct _ hp))

/-! ### targets -/
def rdG (X : Cx) (tg : Expr) : TG := fun v σ H Q => ∀ (pins : List (Addr × Obj)) (s : Shared) (u : Value), Inv X pins σ H s → RelV v u → wpAny (model X.prog X.w) X.A (assign tg X.env u) (fun _ s' => ∃ σ' H', Inv X pins σ' H' s' ∧ Q σ' H') X.xe s
def rdGs (X : Cx) (ts : List Expr) : TGs := fun vs σ H Q => ∀ (pins : List (Addr × Obj)) (s : Shared) (us : List Value), Inv X pins σ H s → Vals vs us → wpAny (model X.prog X.w) X.A (assignInOrder ((assignEach ts X.env).map (·.2)) us) (fun _ s' => ∃ σ' H', Inv X pins σ' H' s' ∧ Q σ' H') X.xe s
theorem pg_rd : PG X tg (rdG X tg) := ⟨fun pins s _ _ _ u _ I r h => h pins s u I r⟩
theorem pgs_rd : PGs X es (rdGs X es) := ⟨fun pins s _ _ _ us _ I r h => h pins s us I r⟩
theorem eg_of {g : TG} (h : PG X tg g) (q : EvG G g tl d cs cs') : EvG G (rdG X tg) tl d cs cs' := fun F σ H v Q rl qv k pins s u I r => h.run pins s σ H v u Q I r (q F σ H v Q rl qv k)
theorem egs_of {g : TGs} (h : PGs X es g) (q : EvGs G g tl ds cs cs') : EvGs G (rdGs X es) tl ds cs cs' := fun F σ H vs Q rl qv k pins s us I r => h.run pins s σ H vs us Q I r (q F σ H vs Q rl qv k)
theorem eg_name (i : Nat) {n : Str} (hN : X.N.Nodup) (hi : X.N[i]? = some n) (hx : Loc X.env.scope n) (hf : X.fn n = true ∨ X.env.scope.names.lookup n = some .local) : EvG G (rdG X (.Name n pos)) [i] d cs (cs.set i (.val d)) :=
  eg_of (pg_name hN hi hx hf) fun F σ H v Q rl qv k => k _ (Rel.stp_val i d) (rl.setVal qv) ⟨List.length_set, fun j hj => List.getElem?_set_ne (fun z => hj (by simp [z]))⟩
theorem egs_nil : EvGs G (rdGs X []) [] [] cs cs := egs_of pgs_nil fun F σ H vs Q rl qv k => by
  cases qv
  exact ⟨rfl, k σ .refl rl ⟨rfl, fun _ _ => rfl⟩⟩
theorem egs_cons {tl2 : List Nat} (h : EvG G (rdG X e) tl d cs cs1) (h2 : EvGs G (rdGs X es) tl2 ds cs1 cs2) (hs : (assignEach (e :: es) X.env).map (·.2) = assign e X.env :: (assignEach es X.env).map (·.2) := by rfl) : EvGs G (rdGs X (e :: es)) (tl ++ tl2) (d :: ds) cs cs2 :=
  egs_of (pgs_cons pg_rd pgs_rd hs) fun F σ H vs Q rl qv k => by
    obtain ⟨v, r, rfl, q1, q2⟩ := qv
    exact ⟨v, r, rfl, h F σ H v _ rl q1 fun σ' st r1 u1 => h2 F σ' H r _ r1 q2 fun σ2 st2 r2 u2 => k σ2 (st.trans st2) r2 ⟨u2.1.trans u1.1, fun j hj => (u2.2 j fun z => hj (List.mem_append_right _ z)).trans (u1.2 j fun z => hj (List.mem_append_left _ z))⟩⟩
theorem eg_tup {kk : Nat} (hc : X.calm = true) (h : EvGs G (rdGs X es) tl ds cs cs1) (hK : G.K = X.K := by rfl) (hn : (assignEach es X.env).length = ds.length := by rfl) (hst : (assignEach es X.env).findIdx? (·.1) = none := by rfl) : EvG G (rdG X (.Tuple es kk pos)) tl (.tup ds) cs cs1 :=
  eg_of (pg_tup hc pgs_rd hn hst) fun F σ H v Q rl qv k => by
    obtain ⟨a, xs, rfl, h1, h2⟩ := qv
    exact ⟨a, xs, rfl, by rw [← hK]; exact same_t rl.sub h1, h2.length, h F σ H xs Q rl h2 k⟩
/-- target = value -/
theorem sx_asg (h : Ev G (rdE X e) cs d cs1) (hg : EvG G (rdG X tg) tl d cs1 cs2) (hp : P.nx cs2) (hs : swapsWithSole [tg] e pos.line X.env = pure false := by rfl) (hw : swappedStores [tg] e X.env = pure none := by rfl)
    (h1 : (assignEach [tg] X.env).map (·.2) = [assign tg X.env] := by rfl) : Sx G (rdS X (.Assign [tg] e pos)) cs P :=
  sx_of (ps_asg pe_rd pg_rd hs hw h1) fun F σ H E rl k1 _ _ _ _ => h F σ H _ rl fun v F1 H1 st1 r1 q1 => hg F1 σ H1 v _ r1 q1 fun σ' st2 r2 _ => k1 cs2 σ' F1 H1 hp (st1.trans st2) r2
/-- name = value -/
theorem sx_set (i : Nat) {n : Str} {np : Pos} (h : Ev G (rdE X e) cs d cs1) (hp : P.nx (cs1.set i (.val d))) (hN : X.N.Nodup) (hi : X.N[i]? = some n) (hx : Loc X.env.scope n) (hf : X.fn n = true ∨ X.env.scope.names.lookup n = some .local) (hs : swapsWith e (some (.Name n np)) pos.line X.env = pure false := by rfl) :
    Sx G (rdS X (.Assign [.Name n np] e pos)) cs P :=
  sx_of (ps_set (i := i) hN hi hx pe_rd hs hf) fun F σ H E rl k1 _ _ _ _ => h F σ H _ rl fun v F1 H1 st1 r1 q1 => k1 _ _ F1 H1 hp (st1.trans (Rel.stp_val i d)) (r1.setVal q1)
theorem stp_own {F H : Hp} {i : Nat} (h : H l = none ∨ Owns cs l) : Stp F H (Owns cs) F H (Owns (cs.set i (.own l ds))) :=
  ⟨Same.refl F, fun _ _ h _ => h, fun _ _ h => .inl h, fun a q => by
    rcases q.set with z | z
    · exact .inl z
    · cases z
      exact h.symm, fun _ h => h⟩
theorem set_own {F H F1 H1 : Hp} {σ : L2.St} {i : Nat} {vs : List V} (st : Stp F H (Owns cs) F1 H1 (Owns cs1)) (r1 : Rel G F1 σ H1 cs1) (hp : H l = none) (no : ¬ Owns cs1 l) (h1 : H1 l = some (.lst vs)) (h2 : F1 l = none) (q : IsAll G F1 ds vs) :
    Stp F H (Owns cs) F1 H1 (Owns (cs1.set i (.own l ds))) ∧ Rel G F1 (σ.set i (some (.ref l))) H1 (cs1.set i (.own l ds)) :=
  ⟨⟨st.fsub, st.frame, st.fresh, fun a z => by
    rcases z.set with z | z
    · exact st.own a z
    · (cases z; exact .inr hp), st.back⟩, r1.setOwn h1 h2 q no⟩
/-- name = a new list -/
theorem sx_setN (i : Nat) {n : Str} {np : Pos} (h : EvN G (rdE X e) cs ds cs1) (hp : ∀ l, P.nx (cs1.set i (.own l ds))) (hN : X.N.Nodup) (hi : X.N[i]? = some n) (hx : Loc X.env.scope n) (hf : X.fn n = true ∨ X.env.scope.names.lookup n = some .local) (hs : swapsWith e (some (.Name n np)) pos.line X.env = pure false := by rfl) :
    Sx G (rdS X (.Assign [.Name n np] e pos)) cs P :=
  sx_of (ps_set (i := i) hN hi hx pe_rd hs hf) fun F σ H E rl k1 _ _ _ _ => h F σ H _ rl fun p vs F1 H1 st1 r1 q0 q1 q2 q3 q4 => by
    obtain ⟨st2, r2⟩ := set_own (i := i) st1 r1 q0 q1 q2 q3 q4
    exact k1 _ _ F1 H1 (hp p) st2 r2
/-- a, b = two new lists -/
theorem sx_parNN (i j : Nat) {n m : Str} {ds es : List D} {px py pt : Pos} {kt k2 pt2} (ha : EvN G (rdE X a) cs ds cs1) (hb : EvN G (rdE X b) cs1 es cs2) (hp : ∀ l l', P.nx ((cs2.set i (.own l ds)).set j (.own l' es)))
    (hpar : ∀ {ta : TA}, PA X [a, b] ta → PS X (.Assign [.Tuple [.Name n px, .Name m py] kt pt] (.Tuple [a, b] k2 pt2) pos) (tPar i j ta)) (hij : i ≠ j) (hs : starEach [a, b] X.env = (false, eval a X.env) :: starEach [b] X.env := by rfl) (hs2 : starEach [b] X.env = (false, eval b X.env) :: starEach [] X.env := by rfl) :
    Sx G (rdS X (.Assign [.Tuple [.Name n px, .Name m py] kt pt] (.Tuple [a, b] k2 pt2) pos)) cs P :=
  sx_of (hpar (pa_cons pe_rd (pa_cons pe_rd pa_nil hs2) hs)) fun F σ H E rl k1 _ _ _ _ => ha F σ H _ rl fun p vs F1 H1 st1 r1 q0 q1 q2 q3 q4 => hb F1 σ H1 _ r1 fun p' vs' F2 H2 st2 r2 w0 w1 w2 w3 w4 => by
    have e1 : ¬ Owns cs2 p := fun z => by
      rcases st2.own p z with z | z
      · exact q1 z
      · rw [q2] at z; cases z
    have f1 : F2 p = none := by
      cases z : F2 p with
      | none => rfl
      | some u =>
        rcases st2.fresh p u z with z | z | z
        · rw [q3] at z; cases z
        · rw [q2] at z; cases z
        · exact absurd z q1
    obtain ⟨st3, r3⟩ := set_own (i := i) (st1.trans st2) r2 q0 e1 (st2.frame p _ q2 q1) f1 (IsAll.mono st2.fsub ds q4)
    have nn : p' ≠ p := fun z => by rw [z, q2] at w0; cases w0
    obtain ⟨st4, r4⟩ := set_own (i := j) st3 r3 (st1.back p' w0) (fun z => by
      rcases z.set with z | z
      · exact w1 z
      · cases z; exact nn rfl) w2 w3 w4
    exact ⟨.ref p, .ref p', rfl, k1 _ _ F2 H2 (hp p p') st4 r4⟩

/-! ### a list of ours changes -/
section
variable {i : Nat} {n m : Str} {np ap : Pos} {es' : List D} {o : Expr}
theorem own_meth {id : String} {rr : V → List V → Hp → VK → Prop} {F H : Hp} {σ : L2.St} (rl : Rel G F σ H cs) (h : cs[i]? = some (.own l ds)) : ∃ vs, σ[i]? = some (some (.ref l)) ∧ H l = some (.lst vs) ∧ F l = none ∧ IsAll G F ds vs ∧ tyV X.K "list" (.ref l) H := by
  obtain ⟨vs, e1, h1, h2, q⟩ := rl.own h
  exact ⟨vs, e1, h1, h2, q, .inl ⟨rfl, vs, SqL.of h1⟩⟩
/-- xs.append(e) -/
theorem sx_append (i : Nat) (h : cs[i]? = some (.own l ds)) (he : Ev G (rdE X e) cs d cs1) (h1 : cs1[i]? = some (.own l es')) (hz : es'.length < 10000000) (hp : P.nx (cs1.set i (.own l (es' ++ [d])))) (hN : X.N[i]? = some n) (hv : Vis X.env.scope n)
    (hpe : ∀ {to : TE} {t : TA}, PE X (.Name n np) to → PA X [e] t → PE X (.Call (.Attribute (.Name n np) "append" ap) [e] [] pos) (tBM X.K "list" rAppend to t)) {spos : Pos} (hd : (n == ("__debug__" : Str)) = false := by decide) (hcd : (n == ("__classdict__" : Str)) = false := by decide)
    (hs : starEach [e] X.env = (false, eval e X.env) :: starEach [] X.env := by rfl) (hsw : swapsWith (.Call (.Attribute (.Name n np) "append" ap) [e] [] pos) none spos.line X.env = pure false := by rfl) :
    Sx G (rdS X (.Expr (.Call (.Attribute (.Name n np) "append" ap) [e] [] pos) spos)) cs P :=
  sx_of (ps_expr (hpe (pe_var hN hv hd hcd) (pa_cons pe_rd pa_nil hs)) hsw) fun F σ H E rl k1 _ _ _ _ => by
    obtain ⟨vs, e1, _, _, _, ty⟩ := own_meth (X := X) (id := "") (rr := fun _ _ _ _ => True) rl h
    refine ⟨.ref l, e1, ty, he F σ H _ rl fun v F1 H1 st1 r1 q1 => ?_⟩
    obtain ⟨vs1, e2, h2, h3, h4⟩ := r1.own h1
    refine ⟨l, vs1, v, rfl, rfl, h2, ?_, ?_⟩
    · rw [h4.length]
      exact Nat.lt_trans hz (by decide)
    · exact k1 _ σ F1 _ hp (st1.trans (Stp.write h1)) (r1.write h1 (h4.append (.one q1)))
end

/-! ### loops -/
def rdI (X : Cx) (tg iter : Expr) : TI := fun σ H R => ∀ (pins : List (Addr × Obj)) (s : Shared), Inv X pins σ H s →
  wpAny (model X.prog X.w) X.A (eval iter X.env) (fun v s1 => wpAny (model X.prog X.w) X.A (pyIter v) (PIE X pins σ tg R) X.xe s1) X.xe s
theorem pi_rd : PI X tg iter (rdI X tg iter) := ⟨fun pins s _ _ _ I h => h pins s I⟩
theorem ei_of {wi : TI} {its : List D} (h : PI X tg iter wi) (q : EvI G wi cs its cs') : EvI G (rdI X tg iter) cs its cs' := fun F σ H R rl k pins s I => h.run pins s σ H R I (q F σ H R rl k)
theorem itd_list {K : PySem.W.Frag} {F : Hp} {a : Addr} {vs : List V} (h : F a = some (.lst vs)) (q : IsAll G F ds vs) : ItD G (Itl K a) F ds := fun F1 H1 s1 s2 => by
  have hq : SqL K H1 a vs := SqL.of (s2 _ _ (s1 _ _ h))
  refine ⟨fun i d e => ?_, ⟨vs, hq, by rw [q.length]; exact Nat.le_refl _⟩⟩
  obtain ⟨v, e1, q1⟩ := (IsAll.mono s1 ds q).get e
  refine ⟨⟨vs, v, hq, e1⟩, fun x H2 ⟨eH, y⟩ => ?_⟩
  subst eH
  have := y vs hq
  rw [e1] at this
  cases this
  exact ⟨F1, .refl s2, q1⟩
theorem itd_tup {K : PySem.W.Frag} {F : Hp} {a : Addr} {vs : List V} (h : SqT K F a vs) (q : IsAll G F ds vs) : ItD G (Itt K a) F ds := fun F1 H1 s1 s2 => by
  have hq : SqT K H1 a vs := same_t (s1.trans s2) h
  refine ⟨fun i d e => ?_, ⟨vs, hq, by rw [q.length]; exact Nat.le_refl _⟩⟩
  obtain ⟨v, e1, q1⟩ := (IsAll.mono s1 ds q).get e
  refine ⟨⟨vs, v, hq, e1⟩, fun x H2 ⟨eH, y⟩ => ?_⟩
  subst eH
  have := y vs hq
  rw [e1] at this
  cases this
  exact ⟨F1, .refl s2, q1⟩
def rng (n : Nat) : List D := (List.range n).map fun (i : Nat) => D.int (i : Int)
theorem rng_get {n i : Nat} {d : D} (h : (rng n)[i]? = some d) : i < n ∧ d = .int (i : Int) := by
  unfold rng at h
  rw [List.getElem?_map] at h
  by_cases hi : i < n
  · rw [List.getElem?_range hi] at h
    exact ⟨hi, (Option.some.inj h).symm⟩
  · rw [List.getElem?_eq_none (by simpa using hi)] at h
    cases h
theorem rng_length (n : Nat) : (rng n).length = n := by unfold rng; simp
theorem itd_rng {F : Hp} {n : Nat} : ItD G (Itr 0 n) F (rng n) := fun F1 H1 s1 s2 => by
  refine ⟨fun i d e => ?_, by rw [rng_length]; exact Nat.le_refl _⟩
  obtain ⟨hi, rfl⟩ := rng_get e
  refine ⟨hi, fun x H2 ⟨eH, y⟩ => ?_⟩
  subst eH
  rw [Int.zero_add] at y
  exact ⟨F1, .refl s2, y⟩
theorem ei_list (h : Ev G (rdE X iter) cs (.lst ds) cs1) : EvI G (rdI X tg iter) cs ds cs1 := ei_of (pi_list pe_rd) fun F σ H R rl q => h F σ H _ rl fun v F1 H1 st1 r1 q1 => by
  obtain ⟨a, vs, rfl, h1, h2⟩ := q1
  exact ⟨a, rfl, ⟨vs, SqL.of (r1.sub _ _ h1)⟩, q _ F1 H1 st1 r1 (itd_list h1 h2)⟩
theorem ei_tup (h : Ev G (rdE X iter) cs (.tup ds) cs1) (hK : G.K = X.K := by rfl) : EvI G (rdI X tg iter) cs ds cs1 := ei_of (pi_tup pe_rd) fun F σ H R rl q => h F σ H _ rl fun v F1 H1 st1 r1 q1 => by
  obtain ⟨a, vs, rfl, h1, h2⟩ := q1
  rw [hK] at h1
  exact ⟨a, rfl, ⟨vs, same_t r1.sub h1⟩, q _ F1 H1 st1 r1 (itd_tup h1 h2)⟩
theorem ei_seq (h : Ev G (rdE X iter) cs d cs1) (hs : d = .lst ds ∨ d = .tup ds) (hK : G.K = X.K := by rfl) : EvI G (rdI X tg iter) cs ds cs1 := by
  rcases hs with rfl | rfl
  · exact ei_list h
  · exact ei_tup h hK
theorem ei_range {p : Pos} {n : Nat} (h : EvV G (rdA X [e]) cs [.int (n : Int)] cs1) (hg : Gl X "range") (hm : X.mg "range" = none) (hn : n ≤ 1000000) (hs : starEach [e] X.env = [(false, eval e X.env)] := by rfl) : EvI G (rdI X tg (.Call (.Name "range" p) [e] [] pos)) cs (rng n) cs1 :=
  ei_of (pi_range1 hg hm pa_rd hs) fun F σ H R rl q => h F σ H _ rl fun vs F1 H1 st1 r1 q1 => by
    obtain ⟨v, r, rfl, hv, hr⟩ := q1
    cases hv
    cases hr
    refine ⟨(n : Int), rfl, by omega, by omega, ?_⟩
    rw [Int.toNat_natCast]
    exact q _ F1 H1 st1 r1 itd_rng
theorem sx_for {its : List D} (hi : EvI G (rdI X tg iter) cs its cs1) (I : Nat → List Cell → Prop) (h0 : I 0 cs1)
    (hs : ∀ (i : Nat) d cs2, its[i]? = some d → I i cs2 → ∃ cs3 tl, EvG G (rdG X tg) tl d cs2 cs3 ∧ Sx G (rdSs X body) cs3 { nx := I (i + 1), ct := I (i + 1), bk := P.nx, rt := P.rt, rn := P.rn }) (hd : ∀ cs2, I its.length cs2 → P.nx cs2)
    (hc : X.calm = true) (hp : PassesOwn (model X.prog X.w) X.A X.env X.xe := by exact PassesOwn.never) (hf : ∀ x, foldedSetIterable iter X.env x = pure x := by intro _; rfl) : Sx G (rdS X (.For tg iter body [] pos)) cs P :=
  sx_of (ps_for hp hc pi_rd pg_rd pss_rd hf) fun F σ H E rl k1 k2 k3 k4 k5 => hi F σ H _ rl fun J F1 H1 st1 r1 it => by
    refine ⟨fun i m σ2 H2 => m = its.length - i ∧ i ≤ its.length ∧ ∃ cs2 F2, I i cs2 ∧ Rel G F2 σ2 H2 cs2 ∧ Stp F1 H1 (Owns cs1) F2 H2 (Owns cs2), ⟨its.length, by simp, Nat.zero_le _, cs1, F1, h0, r1, .refl⟩, ?_⟩
    rintro i m σ2 H2 ⟨rfl, hi2, cs2, F2, i2, r2, st2⟩
    obtain ⟨hgo, hstop⟩ := it F2 H2 st2.fsub r2.sub
    by_cases hlt : i < its.length
    · obtain ⟨go, yl⟩ := hgo i its[i] (List.getElem?_eq_getElem hlt)
      refine .inr ⟨go, fun σ' H' => ∃ cs4 F4, I (i + 1) cs4 ∧ Rel G F4 σ' H' cs4 ∧ Stp F1 H1 (Owns cs1) F4 H' (Owns cs4), fun σ' H' q => ⟨its.length - (i + 1), by omega, rfl, hlt, q⟩, fun x H3 y => ?_⟩
      obtain ⟨F3, g, q3⟩ := yl x H3 y
      obtain ⟨cs3, tl, hg, hb⟩ := hs i its[i] cs2 (List.getElem?_eq_getElem hlt) i2
      refine hg F3 σ2 H3 x _ (r2.grow g) q3 fun σ3 st3 r3 _ => ?_
      have sa := (st2.trans g.stp).trans st3
      have sb := st1.trans sa
      exact hb F3 σ3 H3 _ r3 (fun cs4 σ4 F4 H4 i4 s4 r4 => ⟨cs4, F4, i4, r4, sa.trans s4⟩) (k2.after sb) (k3.after sb) (k1.after sb) (fun cs4 σ4 F4 H4 i4 s4 r4 => ⟨cs4, F4, i4, r4, sa.trans s4⟩)
    · have e : i = its.length := by omega
      subst e
      exact .inl ⟨hstop, k1 cs2 σ2 F2 H2 (hd cs2 i2) (st1.trans st2) r2⟩
theorem sx_while {m0 : Nat} (I : Nat → List Cell → Prop) (h0 : I m0 cs) (hs : ∀ m cs2, I m cs2 → ∃ k cs3, EvT G (rdT X c) cs2 k cs3 ∧ (k = true → Sx G (rdSs X body) cs3 { nx := fun cs4 => ∃ m', m' < m ∧ I m' cs4, ct := fun cs4 => ∃ m', m' < m ∧ I m' cs4, bk := P.nx, rt := P.rt, rn := P.rn }) ∧ (k = false → P.nx cs3))
    (hp : PassesOwn (model X.prog X.w) X.A X.env X.xe := by exact PassesOwn.never) : Sx G (rdS X (.While c body [] pos)) cs P :=
  sx_of (ps_while hp pt_rd pss_rd) fun F σ H E rl k1 k2 k3 k4 k5 => by
    refine ⟨fun m σ2 H2 => ∃ cs2 F2, I m cs2 ∧ Rel G F2 σ2 H2 cs2 ∧ Stp F H (Owns cs) F2 H2 (Owns cs2), ⟨m0, cs, F, h0, rl, .refl⟩, ?_⟩
    rintro m σ2 H2 ⟨cs2, F2, i2, r2, st2⟩
    obtain ⟨k, cs3, ht, hb, hn⟩ := hs m cs2 i2
    refine ht F2 σ2 H2 _ r2 fun F3 H3 st3 r3 => ?_
    have sa := st2.trans st3
    cases k with
    | true =>
      refine iteT ⟨fun σ' H' => ∃ m', m' < m ∧ ∃ cs4 F4, I m' cs4 ∧ Rel G F4 σ' H' cs4 ∧ Stp F H (Owns cs) F4 H' (Owns cs4), fun σ' H' q => q, ?_⟩
      exact hb rfl F3 σ2 H3 _ r3 (fun cs4 σ4 F4 H4 ⟨m', hm, i4⟩ s4 r4 => ⟨m', hm, cs4, F4, i4, r4, sa.trans s4⟩) (k2.after sa) (k3.after sa) (k1.after sa) (fun cs4 σ4 F4 H4 ⟨m', hm, i4⟩ s4 r4 => ⟨m', hm, cs4, F4, i4, r4, sa.trans s4⟩)
    | false => exact iteF (k1 cs3 σ2 F3 H3 (hn rfl) sa r3)
end
end Fx
namespace Fx
open PySem L2
section
variable {G : Gx} {ts : TS} {cs : List Cell} {P : Post} {l : Addr} {ds : List D}
/-- a list of ours is left as it is from here on -/
theorem sx_frz (i : Nat) (h : cs[i]? = some (.own l ds)) (q : Sx G ts (cs.set i (.val (.lst ds))) P) : Sx G ts cs P := fun F σ H E rl k1 k2 k3 k4 k5 => by
  obtain ⟨vs, _, h1, _, _⟩ := rl.own h
  obtain ⟨r', st⟩ := rl.freeze h h1
  exact q _ σ H E r' (k1.after st) (k2.after st) (k3.after st) (k4.after st) (k5.after st)
/-- a slot is forgotten -/
theorem sx_fgt (i : Nat) (q : Sx G ts (cs.set i .no) P) : Sx G ts cs P := fun F σ H E rl k1 k2 k3 k4 k5 =>
  q F σ H E (rl.forget i) (k1.after (Rel.stp_no i)) (k2.after (Rel.stp_no i)) (k3.after (Rel.stp_no i)) (k4.after (Rel.stp_no i)) (k5.after (Rel.stp_no i))
end
end Fx

/-! Rules: comprehensions; contracts of defs; calls. -/
namespace Fx
open PySem L2
def wipeC (cs : List Cell) : List Nat → List Cell
  | [] => cs
  | v :: vs => (wipeC cs vs).set v .no
def keepC : Option Cell → Cell
  | some (.val d) => .val d
  | _ => .no
theorem keepC_free (c : Option Cell) (a : Addr) : ¬ Has (keepC c) a := by
  unfold keepC
  split <;> exact fun h => h
def restC (cs2 cs5 : List Cell) : List Nat → List Cell
  | [] => cs5
  | v :: vs => (restC cs2 cs5 vs).set v (keepC cs2[v]?)
section
variable {G : Gx} {F F2 F5 H H2 H5 : Hp} {σ σ2 : L2.St} {cs cs2 cs5 : List Cell}
theorem Rel.wipe (r : Rel G F σ H cs) : ∀ vs : List Nat, Rel G F (L2.wipe σ vs) H (wipeC cs vs) ∧ Stp F H (Owns cs) F H (Owns (wipeC cs vs))
  | [] => ⟨r, .refl⟩
  | v :: vs => by
    obtain ⟨r1, s1⟩ := Rel.wipe r vs
    exact ⟨r1.setNo, s1.trans (Rel.stp_no v)⟩
theorem wipe_get (σ : L2.St) : ∀ (vs : List Nat) (j : Nat), j ∉ vs → (L2.wipe σ vs)[j]? = σ[j]?
  | [], _, _ => rfl
  | v :: vs, j, h => by
    unfold L2.wipe
    rw [List.getElem?_set_ne (fun z => h (by simp [z]))]
    exact wipe_get σ vs j fun z => h (List.mem_cons_of_mem _ z)
theorem wipe_in (σ : L2.St) : ∀ (vs : List Nat) (j : Nat), j ∈ vs → (L2.wipe σ vs)[j]? = if j < σ.length then some none else none
  | v :: vs, j, h => by
    unfold L2.wipe
    by_cases e : v = j
    · subst e
      by_cases hl : v < σ.length
      · rw [if_pos hl, List.getElem?_set_self (by rw [wipe_length]; exact hl)]
      · rw [if_neg hl, List.getElem?_eq_none (by rw [List.length_set, wipe_length]; omega)]
    · rw [List.getElem?_set_ne e]
      exact wipe_in σ vs j (by simpa [Ne.symm e] using h)
theorem wipe_same {vs : List Nat} (hl : σ2.length = σ.length) (h : ∀ j, j ∉ vs → σ2[j]? = (L2.wipe σ vs)[j]?) : L2.wipe σ2 vs = L2.wipe σ vs := by
  apply List.ext_getElem?
  intro j
  by_cases hj : j ∈ vs
  · rw [wipe_in _ _ _ hj, wipe_in _ _ _ hj, hl]
  · rw [wipe_get _ _ _ hj, h j hj]
theorem restC_length (vs : List Nat) : (restC cs2 cs5 vs).length = cs5.length := by
  induction vs with
  | nil => rfl
  | cons v vs ih => unfold restC; rw [List.length_set]; exact ih
theorem restC_get : ∀ (vs : List Nat) (j : Nat) (c : Cell), (restC cs2 cs5 vs)[j]? = some c → (j ∉ vs ∧ cs5[j]? = some c) ∨ (j ∈ vs ∧ c = keepC cs2[j]?)
  | [], j, c, h => .inl ⟨by simp, h⟩
  | v :: vs, j, c, h => by
    unfold restC at h
    rcases get_set h with ⟨rfl, rfl, _⟩ | ⟨n, h⟩
    · exact .inr ⟨by simp, rfl⟩
    · rcases restC_get vs j c h with ⟨a, b⟩ | ⟨a, b⟩
      · exact .inl ⟨by simp [a, Ne.symm n], b⟩
      · exact .inr ⟨by simp [a], b⟩
theorem Rel.rest {vs : List Nat} (r2 : Rel G F2 σ H2 cs2) (r5 : Rel G F5 σ2 H5 cs5) (s : Same F2 F5) (hl : σ2.length = σ.length) (h : ∀ j, j ∉ vs → σ2[j]? = σ[j]?) : Rel G F5 σ H5 (restC cs2 cs5 vs) where
  sub := r5.sub
  len := by
    rw [restC_length, ← r5.len, hl]
  inj := fun l i j c d h1 h2 e1 e2 => by
    have un : ∀ {i : Nat} {c : Cell}, (restC cs2 cs5 vs)[i]? = some c → Has c l → cs5[i]? = some c := fun {i c} h e => by
      rcases restC_get vs i _ h with ⟨_, q⟩ | ⟨_, q⟩
      · exact q
      · rw [q] at e; exact absurd e (keepC_free _ _)
    exact r5.inj l i j c d (un h1 e1) (un h2 e2) e1 e2
  cel := fun i c e => by
    rcases restC_get vs i c e with ⟨hn, q⟩ | ⟨hn, q⟩
    · obtain ⟨o, e1, q1⟩ := r5.cel i c q
      exact ⟨o, by rw [← h i hn]; exact e1, q1⟩
    · subst q
      cases z : cs2[i]? with
      | none =>
        have a1 : cs2.length ≤ i := List.getElem?_eq_none_iff.mp z
        have a2 : i < (restC cs2 cs5 vs).length := (List.getElem?_eq_some_iff.mp e).1
        rw [restC_length, ← r5.len, hl, r2.len] at a2
        omega
      | some c =>
        obtain ⟨o, e1, q1⟩ := r2.cel i c z
        refine ⟨o, e1, ?_⟩
        cases c with
        | no => trivial
        | own l ds => trivial
        | ins l k ds => trivial
        | mat l ls rows => trivial
        | dic l kvs => trivial
        | val d =>
          obtain ⟨v, e2, q2⟩ := q1
          exact ⟨v, e2, Is.mono s d q2⟩
end

/-! ### list comprehensions -/
section
variable {X : Cx} {G : Gx} {e elt tg iter : Expr} {es ifs : List Expr} {pos : Pos} {cs cs' cs1 cs2 cs3 : List Cell} {d x y z : D} {ds its : List D} {k : Bool} {l : Addr} {P : Post} {scope : Scope}
def rdTs (X : Cx) (ifs : List Expr) : TT := fun σ H Q => ∀ (pins : List (Addr × Obj)) (s : Shared), Inv X pins σ H s →
  wpAny (model X.prog X.w) X.A (forIn ifs true fun c r => if r = true then do let ok ← isTrue c X.env (eval c X.env); pure (ForInStep.yield ok) else pure (ForInStep.yield r)) (TP X pins σ Q) X.xe s
theorem pts_rd : PTs X ifs (rdTs X ifs) := ⟨fun pins s _ _ _ I h => h pins s I⟩
theorem ets_of {tt : TT} (h : PTs X ifs tt) (q : EvT G tt cs k cs') : EvT G (rdTs X ifs) cs k cs' := fun F σ H Q r kk pins s I => h.run pins s σ H Q I (q F σ H Q r kk)
theorem ets_nil : EvT G (rdTs X []) cs true cs := ets_of pts_nil fun F σ H Q rl q => q F H .refl rl
theorem ets_one {c : Expr} (h : EvT G (rdT X c) cs k cs') : EvT G (rdTs X [c]) cs k cs' := ets_of (pts_one pt_rd) h
/-- a comprehension's block -/
abbrev Bk (X : Cx) (scope : Scope) (s : Shared) (H : Hp) (C : Addr) (cl : List (Str × Addr)) (fp : List Addr) : Cx := X.blk s H scope (compEnvC scope cl C X.env) fp
/-- one turn: I by the turn, what is made so far, the cells -/
def Turn1 (G : Gx) (X : Cx) (scope : Scope) (tg elt : Expr) (ifs : List Expr) (vs : List Nat) (I : Nat → List D → List Cell → Prop) (i : Nat) (d : D) (acc : List D) (cs2 : List Cell) : Prop :=
  ∃ cs3 tl k cs4, (∀ j ∈ tl, j ∈ vs) ∧ (∀ s H C cl fp, EvG G (rdG (Bk X scope s H C cl fp) tg) tl d (wipeC cs2 vs) cs3) ∧ (∀ s H C cl fp, EvT G (rdTs (Bk X scope s H C cl fp) ifs) cs3 k cs4) ∧
    (k = true → ∃ y cs5, (∀ s H C cl fp, Ev G (rdE (Bk X scope s H C cl fp) elt) cs4 y cs5) ∧ acc.length < 10000000 ∧ I (i + 1) (acc ++ [y]) (restC cs2 cs5 vs)) ∧ (k = false → I (i + 1) acc (restC cs2 cs4 vs))
/-- .. one of several values; .. of several new lists -/
def EvR (G : Gx) (te : TE) (cs : List Cell) (R : D → List Cell → Prop) : Prop := ∀ (F : Hp) (σ : L2.St) (H : Hp) (Q : VK), Rel G F σ H cs →
  (∀ d cs' v F' H', R d cs' → Stp F H (Owns cs) F' H' (Owns cs') → Rel G F' σ H' cs' → Is G F' d v → Q v H') → te σ H Q
def EvNR (G : Gx) (te : TE) (cs : List Cell) (R : List D → List Cell → Prop) : Prop := ∀ (F : Hp) (σ : L2.St) (H : Hp) (Q : VK), Rel G F σ H cs →
  (∀ ds cs' p vs F' H', R ds cs' → Stp F H (Owns cs) F' H' (Owns cs') → Rel G F' σ H' cs' → H p = none → ¬ Owns cs' p → H' p = some (.lst vs) → F' p = none → IsAll G F' ds vs → Q (.ref p) H') → te σ H Q
def Turn1R (G : Gx) (X : Cx) (scope : Scope) (tg elt : Expr) (ifs : List Expr) (vs : List Nat) (I : Nat → List D → List Cell → Prop) (i : Nat) (d : D) (acc : List D) (cs2 : List Cell) : Prop :=
  ∃ cs3 tl k cs4, (∀ j ∈ tl, j ∈ vs) ∧ (∀ s H C cl fp, EvG G (rdG (Bk X scope s H C cl fp) tg) tl d (wipeC cs2 vs) cs3) ∧ (∀ s H C cl fp, EvT G (rdTs (Bk X scope s H C cl fp) ifs) cs3 k cs4) ∧
    (k = true → ∃ R', (∀ s H C cl fp, EvR G (rdE (Bk X scope s H C cl fp) elt) cs4 R') ∧ ∀ y cs5, R' y cs5 → acc.length < 10000000 ∧ I (i + 1) (acc ++ [y]) (restC cs2 cs5 vs)) ∧ (k = false → I (i + 1) acc (restC cs2 cs4 vs))
theorem stp_sub {F H F' H' : Hp} {O O' O2 : Addr → Prop} (s : Stp F H O F' H' O') (h : ∀ a, O2 a → O' a) : Stp F H O F' H' O2 := ⟨s.fsub, s.frame, s.fresh, fun a z => s.own a (h a z), s.back⟩
theorem owns_rest {vs : List Nat} {a : Addr} {cs5 : List Cell} (h : Owns (restC cs2 cs5 vs) a) : Owns cs5 a := by
  obtain ⟨i, c, e, ho⟩ := h
  rcases restC_get vs i _ e with ⟨_, q⟩ | ⟨_, q⟩
  · exact ⟨i, c, q, ho⟩
  · rw [q] at ho; exact absurd ho (keepC_free _ _)
theorem Stp.plus {F H F' H' : Hp} {O O' : Addr → Prop} {a : Addr} (s : Stp F H O F' H' O') : Stp F H (fun b => O b ∨ b = a) F' H' (fun b => O' b ∨ b = a) :=
  ⟨s.fsub, fun b o e n => s.frame b o e fun z => n (.inl z), fun b o e => by
    rcases s.fresh b o e with z | z | z
    · exact .inl z
    · exact .inr (.inl z)
    · exact .inr (.inr (.inl z)), fun b e => by
    rcases e with e | e
    · rcases s.own b e with z | z
      · exact .inl (.inl z)
      · exact .inr z
    · exact .inl (.inr e), s.back⟩
theorem stp_wr {F H : Hp} {O : Addr → Prop} {a : Addr} {o : HO} : Stp F H (fun b => O b ∨ b = a) F (upd H a o) (fun b => O b ∨ b = a) :=
  ⟨Same.refl F, fun b u e n => by rw [upd_ne (fun z => n (.inr z))]; exact e, fun _ _ e => .inl e, fun _ e => .inl e, fun b e => by
    by_cases z : b = a
    · rw [z, upd_same] at e; cases e
    · rw [upd_ne z] at e; exact e⟩
theorem Rel.updFree {F H : Hp} {σ : L2.St} {a : Addr} {o : HO} (r : Rel G F σ H cs) (h : F a = none) (no : ¬ Owns cs a) : Rel G F σ (upd H a o) cs where
  sub := fun b u e => by rw [upd_ne (ne_of_none e h)]; exact r.sub b u e
  len := r.len
  inj := r.inj
  cel := fun i c e => by
    obtain ⟨q, e1, q1⟩ := r.cel i c e
    refine ⟨q, e1, q1.mono (Same.refl F) fun l u ho a1 a2 => ⟨?_, a2⟩⟩
    rw [upd_ne (fun z => no (by rw [← z]; exact ⟨i, c, e, ho⟩))]
    exact a1
theorem free_of {F H F' H' : Hp} {O O' : Addr → Prop} {a : Addr} {o : HO} (s : Stp F H O F' H' O') (h : F a = none) (h1 : H a = some o) (n : ¬ O a) : F' a = none := by
  cases e : F' a with
  | none => rfl
  | some u =>
    rcases s.fresh a u e with z | z | z
    · rw [h] at z; cases z
    · rw [h1] at z; cases z
    · exact absurd z n
theorem not_owns_of {F H F' H' : Hp} {O O' : Addr → Prop} {a : Addr} {o : HO} (s : Stp F H O F' H' O') (h1 : H a = some o) (n : ¬ O a) : ¬ O' a := fun z => by
  rcases s.own a z with z | z
  · exact n z
  · rw [h1] at z; cases z
abbrev gU (X : Cx) (scope : Scope) (tg : Expr) : TG := fun v σ H Q => ∀ s H0 C cl fp, rdG (Bk X scope s H0 C cl fp) tg v σ H Q
abbrev tU (X : Cx) (scope : Scope) (ifs : List Expr) : TT := fun σ H Q => ∀ s H0 C cl fp, rdTs (Bk X scope s H0 C cl fp) ifs σ H Q
abbrev eU (X : Cx) (scope : Scope) (elt : Expr) : TE := fun σ H Q => ∀ s H0 C cl fp, rdE (Bk X scope s H0 C cl fp) elt σ H Q
theorem evnr_tLc {own : List (Str × Nat)} {R : List D → List Cell → Prop} (hi : EvI G (rdI X tg iter) cs its cs1) (I : Nat → List D → List Cell → Prop) (h0 : I 0 [] cs1)
    (hs : ∀ (i : Nat) d acc cs2, its[i]? = some d → I i acc cs2 → Turn1R G X scope tg elt ifs (own.map (·.2)) I i d acc cs2)
    (hd : ∀ acc cs2, I its.length acc cs2 → R acc cs2) :
    EvNR G (tLc (rdI X tg iter) (gU X scope tg) (tU X scope ifs) (eU X scope elt) (own.map (·.2))) cs R := fun F σ H Q rl q => by
    refine hi F σ H _ rl fun J F1 H1 st1 r1 it Dl hD => ?_
    have g0 := grow_new (o := .lst []) r1.sub hD
    have hF : F1 Dl = none := by
      cases e : F1 Dl with
      | none => rfl
      | some u => rw [r1.sub Dl u e] at hD; cases hD
    have hH : H Dl = none := st1.back Dl hD
    refine ⟨fun i m H2 => m = its.length - i ∧ i ≤ its.length ∧ ∃ acc cs2 F2 ws, I i acc cs2 ∧ Rel G F2 σ H2 cs2 ∧ Stp F1 (upd H1 Dl (.lst [])) (fun a => Owns cs1 a ∨ a = Dl) F2 H2 (fun a => Owns cs2 a ∨ a = Dl) ∧ H2 Dl = some (.lst ws) ∧ F2 Dl = none ∧ IsAll G F2 acc ws ∧ ¬ Owns cs2 Dl,
      ⟨its.length, by simp, Nat.zero_le _, [], cs1, F1, [], h0, r1.grow g0, .refl, upd_same, hF, rfl, r1.notOwns hD⟩, ?_⟩
    rintro i m H2 ⟨rfl, hi2, acc, cs2, F2, ws, i2, r2, st2, hw, hF2, qa, no2⟩
    obtain ⟨hgo, hstop⟩ := it F2 H2 st2.fsub r2.sub
    have stAll : Stp F H (Owns cs) F2 H2 (Owns cs2) := by
      refine ⟨st1.fsub.trans st2.fsub, fun a o e n => ?_, fun a o e => ?_, fun a e => ?_, fun a e => ?_⟩
      · have na : a ≠ Dl := fun z => by rw [z, hH] at e; cases e
        have e1 := st1.frame a o e n
        refine st2.frame a o (by rw [upd_ne na]; exact e1) fun z => ?_
        rcases z with z | z
        · rcases st1.own a z with y | y
          · exact n y
          · rw [y] at e; cases e
        · exact na z
      · rcases st2.fresh a o e with z | z | z | z
        · exact st1.fresh a o z
        · have na : a ≠ Dl := fun y => by rw [y, upd_same] at z; cases z
          rw [upd_ne na] at z
          exact .inr (.inl (st1.back a z))
        · rcases st1.own a z with y | y
          · exact .inr (.inr y)
          · exact .inr (.inl y)
        · rw [z, hF2] at e; cases e
      · rcases st2.own a (.inl e) with (z | z) | z
        · exact st1.own a z
        · exact absurd (z ▸ e) no2
        · have na : a ≠ Dl := fun y => by rw [y, upd_same] at z; cases z
          rw [upd_ne na] at z
          exact .inr (st1.back a z)
      · have z := st2.back a e
        have na : a ≠ Dl := fun y => by rw [y, upd_same] at z; cases z
        rw [upd_ne na] at z
        exact st1.back a z
    by_cases hlt : i < its.length
    · obtain ⟨go, yl⟩ := hgo i its[i] (List.getElem?_eq_getElem hlt)
      refine .inr ⟨go, fun H' => ∃ acc cs4 F4 ws, I (i + 1) acc cs4 ∧ Rel G F4 σ H' cs4 ∧ Stp F1 (upd H1 Dl (.lst [])) (fun a => Owns cs1 a ∨ a = Dl) F4 H' (fun a => Owns cs4 a ∨ a = Dl) ∧ H' Dl = some (.lst ws) ∧ F4 Dl = none ∧ IsAll G F4 acc ws ∧ ¬ Owns cs4 Dl,
        fun H' z => ⟨its.length - (i + 1), by omega, rfl, hlt, z⟩, fun x H3 y => ?_⟩
      obtain ⟨F3, g, q3⟩ := yl x H3 y
      obtain ⟨cs3, tl, k, cs4, htl, hg, ht, hy, hn⟩ := hs i its[i] acc cs2 (List.getElem?_eq_getElem hlt) i2
      have r3 := r2.grow g
      obtain ⟨rw3, sw3⟩ := r3.wipe (own.map (·.2))
      intro sA HA CA clA fpA
      refine hg sA HA CA clA fpA F3 (L2.wipe σ (own.map (·.2))) H3 x _ rw3 q3 fun σ3 st3 r4 u3 => ?_
      have hl3 : σ3.length = σ.length := u3.1.trans (wipe_length σ _)
      have out : ∀ j, j ∉ own.map (·.2) → σ3[j]? = (L2.wipe σ (own.map (·.2)))[j]? := fun j hj => u3.2 j fun z => hj (htl j z)
      have outS : ∀ j, j ∉ own.map (·.2) → σ3[j]? = σ[j]? := fun j hj => (out j hj).trans (wipe_get σ _ j hj)
      have w3 : H3 Dl = some (.lst ws) := g.hsub _ _ hw
      have f3 : F3 Dl = none := by
        cases e : F3 Dl with
        | none => rfl
        | some u =>
          rcases g.fresh Dl u e with z | z
          · rw [hF2] at z; cases z
          · rw [hw] at z; cases z
      have no3 : ¬ Owns cs3 Dl := fun z => by
        rcases st3.own Dl z with z | z
        · rcases sw3.own Dl z with z | z
          · exact no2 z
          · rw [w3] at z; cases z
        · rw [w3] at z; cases z
      refine ⟨wipe_same hl3 out, ?_⟩
      intro sB HB CB clB fpB
      refine ht sB HB CB clB fpB F3 σ3 H3 _ r4 fun F4 H4 st4 r5 => ?_
      have w4 : H4 Dl = some (.lst ws) := st4.frame _ _ w3 no3
      have f4 : F4 Dl = none := free_of st4 f3 w3 no3
      have no4 : ¬ Owns cs4 Dl := not_owns_of st4 w3 no3
      have s4 : Stp F2 H2 (Owns cs2) F4 H4 (Owns cs4) := ((g.stp.trans sw3).trans st3).trans st4
      cases k with
      | true =>
        obtain ⟨R', he, hR⟩ := hy rfl
        refine iteT ?_
        intro sC HC CC clC fpC
        refine he sC HC CC clC fpC F4 σ3 H4 _ r5 fun y cs5 v F5 H5 ry st5 r6 q6 => ?_
        obtain ⟨hz, i5⟩ := hR y cs5 ry
        have w5 : H5 Dl = some (.lst ws) := st5.frame _ _ w4 no4
        have f5 : F5 Dl = none := free_of st5 f4 w4 no4
        have no5 : ¬ Owns cs5 Dl := not_owns_of st5 w4 no4
        have s5 := s4.trans st5
        have no6 : ¬ Owns (restC cs2 cs5 (own.map (·.2))) Dl := fun z => no5 (owns_rest z)
        refine ⟨ws, w5, by rw [qa.length]; exact Nat.lt_trans hz (by decide), acc ++ [y], restC cs2 cs5 (own.map (·.2)), F5, ws ++ [v], i5, (r2.rest r6 s5.fsub hl3 outS).updFree f5 no6, ?_, upd_same, f5, (IsAll.mono s5.fsub acc qa).append (.one q6), no6⟩
        exact (st2.trans (stp_sub s5 fun a => owns_rest).plus).trans stp_wr
      | false =>
        have i5 := hn rfl
        refine iteF ⟨acc, restC cs2 cs4 (own.map (·.2)), F4, ws, i5, r2.rest r5 s4.fsub hl3 outS, st2.trans (stp_sub s4 fun a => owns_rest).plus, w4, f4, IsAll.mono s4.fsub acc qa, fun z => no4 (owns_rest z)⟩
    · have e : i = its.length := by omega
      subst e
      exact .inl ⟨hstop, q acc cs2 Dl ws F2 H2 (hd acc cs2 i2) stAll r2 hH no2 hw hF2 qa⟩
theorem evn_tLc {own : List (Str × Nat)} (hi : EvI G (rdI X tg iter) cs its cs1) (I : Nat → List D → List Cell → Prop) (h0 : I 0 [] cs1)
    (hs : ∀ (i : Nat) d acc cs2, its[i]? = some d → I i acc cs2 → Turn1 G X scope tg elt ifs (own.map (·.2)) I i d acc cs2)
    (hd : ∀ acc cs2, I its.length acc cs2 → acc = ds ∧ cs2 = cs') :
    EvN G (tLc (rdI X tg iter) (gU X scope tg) (tU X scope ifs) (eU X scope elt) (own.map (·.2))) cs ds cs' := fun F σ H Q rl q =>
  evnr_tLc (R := fun acc cs2 => acc = ds ∧ cs2 = cs') hi I h0 (fun i d acc cs2 h1 h2 => by
    obtain ⟨cs3, tl, k, cs4, a1, a2, a3, a4, a5⟩ := hs i d acc cs2 h1 h2
    refine ⟨cs3, tl, k, cs4, a1, a2, a3, fun hk => ?_, a5⟩
    obtain ⟨y, cs5, b1, b2, b3⟩ := a4 hk
    exact ⟨fun z c => z = y ∧ c = cs5, fun s H0 C cl fp F σ H Q rl q => b1 s H0 C cl fp F σ H Q rl fun v F' H' st r i => q y cs5 v F' H' ⟨rfl, rfl⟩ st r i, fun z c ⟨e1, e2⟩ => by subst e1 e2; exact ⟨b2, b3⟩⟩) hd F σ H Q rl fun acc cs2 p vs F' H' ⟨e1, e2⟩ => by subst e1 e2; exact q p vs F' H'


theorem evn_lc {own : List (Str × Nat)} (h : EvN G (tLc (rdI X tg iter) (gU X scope tg) (tU X scope ifs) (eU X scope elt) (own.map (·.2))) cs ds cs') (hc : X.calm = true) (hN : X.N.Nodup) (ok : BlkOk X.N X.env.scope scope own) (hf : ∀ x, foldedSetIterable iter X.env x = pure x := by intro _; rfl) :
    EvN G (rdE X (.ListComp elt [⟨tg, iter, ifs, 0⟩] scope pos)) cs ds cs' :=
  evn_of (pe_lc (g := gU X scope tg) (tt := tU X scope ifs) (te := eU X scope elt) hc hN pi_rd ok
    (fun s H0 C cl fp => ⟨fun pins t σ H v u Q J r h => h s H0 C cl fp pins t u J r⟩) (fun s H0 C cl fp => ⟨fun pins t σ H Q J h => h s H0 C cl fp pins t J⟩) (fun s H0 C cl fp => ⟨fun pins t σ H Q J h => h s H0 C cl fp pins t J⟩) hf) h
/-- name = [..] on one line -/
theorem sx_setLc (i : Nat) {own : List (Str × Nat)} {n : Str} {py spos : Pos} (h : EvN G (tLc (rdI X tg iter) (gU X scope tg) (tU X scope ifs) (eU X scope elt) (own.map (·.2))) cs ds cs1) (hp : ∀ l, P.nx (cs1.set i (.own l ds))) (hc : X.calm = true) (hN : X.N.Nodup) (hy : X.N[i]? = some n) (hyl : X.env.scope.names.lookup n = some .local)
    (hsw : swapsWith (.ListComp elt [⟨tg, iter, ifs, 0⟩] scope pos) (some (.Name n py)) spos.line X.env = pure true) (ok : BlkOk X.N X.env.scope scope own) (hf : ∀ x, foldedSetIterable iter X.env x = pure x := by intro _; rfl) :
    Sx G (rdS X (.Assign [.Name n py] (.ListComp elt [⟨tg, iter, ifs, 0⟩] scope pos) spos)) cs P :=
  sx_of (ps_setLc (i := i) (g := gU X scope tg) (tt := tU X scope ifs) (te := eU X scope elt) hc hN hy hyl hsw pi_rd ok
    (fun s H0 C cl fp => ⟨fun pins t σ H v u Q J r h => h s H0 C cl fp pins t u J r⟩) (fun s H0 C cl fp => ⟨fun pins t σ H Q J h => h s H0 C cl fp pins t J⟩) (fun s H0 C cl fp => ⟨fun pins t σ H Q J h => h s H0 C cl fp pins t J⟩) hf) fun F σ H E rl k1 _ _ _ _ => h F σ H _ rl fun p vs F1 H1 st1 r1 q0 q1 q2 q3 q4 => by
    obtain ⟨st2, r2⟩ := set_own (i := i) st1 r1 q0 q1 q2 q3 q4
    exact k1 _ _ F1 H1 (hp p) st2 r2
end
end Fx
namespace Fx
open PySem L2
section
variable {X : Cx} {G : Gx} {elt tg iter : Expr} {ifs : List Expr} {cs cs1 : List Cell} {scope : Scope}
/-- one turn that changes nothing -/
def TurnP (G : Gx) (X : Cx) (scope : Scope) (tg elt : Expr) (ifs : List Expr) (vs : List Nat) (cs1 : List Cell) (d : D) (k : Bool) (y : D) : Prop :=
  ∃ cs3 tl, (∀ j ∈ tl, j ∈ vs) ∧ (∀ s H C cl fp, EvG G (rdG (Bk X scope s H C cl fp) tg) tl d (wipeC cs1 vs) cs3) ∧ (∀ s H C cl fp, EvT G (rdTs (Bk X scope s H C cl fp) ifs) cs3 k cs3) ∧
    (k = true → ∀ s H C cl fp, Ev G (rdE (Bk X scope s H C cl fp) elt) cs3 y cs3) ∧ restC cs1 cs3 vs = cs1
theorem filter_take_succ {α : Type} (t : α → Bool) (xs : List α) {i : Nat} {x : α} (h : xs[i]? = some x) : (xs.take (i + 1)).filter t = (xs.take i).filter t ++ if t x = true then [x] else [] := by
  rw [List.take_add_one, h, List.filter_append]
  congr 1
  simp only [Option.toList_some, List.filter_cons, List.filter_nil]
theorem evn_pure {α : Type} {own : List (Str × Nat)} (xs : List α) (enc : α → D) (t : α → Bool) (g : α → D) (hi : EvI G (rdI X tg iter) cs (xs.map enc) cs1) (hz : xs.length < 10000000) (hs : ∀ x ∈ xs, TurnP G X scope tg elt ifs (own.map (·.2)) cs1 (enc x) (t x) (g x)) :
    EvN G (tLc (rdI X tg iter) (gU X scope tg) (tU X scope ifs) (eU X scope elt) (own.map (·.2))) cs ((xs.filter t).map g) cs1 := by
  refine evn_tLc (its := xs.map enc) hi (fun i acc c => acc = ((xs.take i).filter t).map g ∧ c = cs1) ⟨by simp, rfl⟩ (fun i d acc c hd hI => ?_) (fun acc c hI => ?_)
  · obtain ⟨rfl, rfl⟩ := hI
    rw [List.getElem?_map] at hd
    cases e : xs[i]? with
    | none => rw [e] at hd; cases hd
    | some x =>
      rw [e] at hd
      cases hd
      have hx : x ∈ xs := List.mem_of_getElem? e
      obtain ⟨cs3, tl, h1, h2, h3, h4, h5⟩ := hs x hx
      refine ⟨cs3, tl, t x, cs3, h1, h2, h3, fun ht => ⟨g x, cs3, h4 ht, ?_, ?_, h5⟩, fun ht => ⟨?_, h5⟩⟩
      · have a1 := List.length_filter_le t (xs.take i)
        have a2 := List.length_take_le i xs
        have a3 : (xs.take i).length ≤ xs.length := by rw [List.length_take]; omega
        rw [List.length_map]
        omega
      · rw [filter_take_succ t xs e, if_pos ht, List.map_append]; rfl
      · rw [filter_take_succ t xs e, if_neg (by rw [ht]; decide), List.append_nil]
  · obtain ⟨rfl, rfl⟩ := hI
    rw [List.length_map, List.take_length]
    exact ⟨rfl, rfl⟩
end
end Fx

/-! Contracts of defs, and calls. -/
namespace Fx
open PySem L2
inductive Out where
  | val (d : D) | new (ds : List D)
def Ret (G : Gx) (F H : Hp) (o : Out) (Q : VK) : Prop := match o with
  | .val d => ∀ v F' H', Grow F H F' H' → Is G F' d v → Q v H'
  | .new es => ∀ p vs F' H', Grow F H F' H' → H p = none → H' p = some (.lst vs) → F' p = none → IsAll G F' es vs → Q (.ref p) H'
/-- a def of values: C tells what comes back -/
def sp0 (G : Gx) (C : List D → Out → Prop) : Sp := fun vs H Q _ => ∃ F ds o, Same F H ∧ IsAll G F ds vs ∧ C ds o ∧ Ret G F H o Q
def RetP (G : Gx) (F H : Hp) (l : Addr) (o : Out) (ps' : List D) (Q : VK) : Prop := match o with
  | .val d => ∀ v F' H' pv', Stp F H (· = l) F' H' (· = l) → Same F' H' → H' l = some (.lst pv') → F' l = none → IsAll G F' ps' pv' → Is G F' d v → Q v H'
  | .new es => ∀ p vs F' H' pv', Stp F H (· = l) F' H' (· = l) → Same F' H' → H' l = some (.lst pv') → F' l = none → IsAll G F' ps' pv' → H p = none → H' p = some (.lst vs) → F' p = none → IsAll G F' es vs → Q (.ref p) H'
/-- a def whose first argument is a list that it changes -/
def sp1 (G : Gx) (C : List D → List D → Out → List D → Prop) : Sp := fun vs H Q _ => ∃ F l pv us ps ds o ps', Same F H ∧ vs = .ref l :: us ∧ H l = some (.lst pv) ∧ F l = none ∧ IsAll G F ps pv ∧ IsAll G F ds us ∧ C ps ds o ps' ∧ RetP G F H l o ps' Q
def post0 (o : Out) : Post := match o with
  | .val d => { nx := fun _ => d = .non, rt := fun d' _ => d' = d }
  | .new es => { nx := fun _ => False, rn := fun es' _ => es' = es }
def post1 (l : Addr) (ps' : List D) (o : Out) : Post := match o with
  | .val d => { nx := fun cs => d = .non ∧ cs[0]? = some (.own l ps'), rt := fun d' cs => d' = d ∧ cs[0]? = some (.own l ps') }
  | .new es => { nx := fun _ => False, rn := fun es' cs => es' = es ∧ cs[0]? = some (.own l ps') }
def nos (n : Nat) : List Cell := List.replicate n .no
def vals (ds : List D) : List Cell := ds.map .val
section
variable {G : Gx} {F H : Hp}
theorem owns_start {ds : List D} {n : Nat} {l : Addr} : ¬ Owns (vals ds ++ nos n) l := fun ⟨i, c, h1, ho⟩ => by
  unfold vals nos at h1
  rw [List.getElem?_append] at h1
  split at h1
  · rw [List.getElem?_map] at h1
    cases e : ds[i]? with
    | none => rw [e] at h1; cases h1
    | some d => rw [e] at h1; cases h1; cases ho
  · rw [List.getElem?_replicate] at h1
    split at h1
    · cases h1; cases ho
    · cases h1
theorem rel_start {ds : List D} {vs : List V} {N : List Str} (s : Same F H) (h : IsAll G F ds vs) (hl : ds.length ≤ N.length) : Rel G F (start N vs) H (vals ds ++ nos (N.length - ds.length)) where
  sub := s
  len := by
    unfold L2.start vals nos
    rw [List.length_append, List.length_append, List.length_map, List.length_map, List.length_replicate, List.length_replicate, h.length]
  inj := fun l i j c d h1 _ e1 _ => absurd ⟨i, c, h1, e1⟩ owns_start
  cel := fun i c e => by
    unfold vals nos at e
    unfold L2.start
    rw [List.getElem?_append] at e ⊢
    rw [List.length_map] at e ⊢
    rw [h.length]
    split at e
    · rename_i hi
      rw [if_pos hi, List.getElem?_map]
      rw [List.getElem?_map] at e
      cases q : ds[i]? with
      | none => rw [q] at e; cases e
      | some d =>
        rw [q] at e
        obtain ⟨v, e1, q1⟩ := h.get q
        rw [e1]
        cases e
        exact ⟨_, rfl, v, rfl, q1⟩
    · rename_i hi
      rw [if_neg hi, List.getElem?_replicate]
      rw [List.getElem?_replicate] at e
      split at e
      · rename_i h2
        rw [if_pos h2]
        cases e
        exact ⟨_, rfl, trivial⟩
      · cases e
theorem rel_start1 {l : Addr} {pv : List V} {ps ds : List D} {vs : List V} {N : List Str} (s : Same F H) (h1 : H l = some (.lst pv)) (h2 : F l = none) (hp : IsAll G F ps pv) (h : IsAll G F ds vs) (hl : ds.length + 1 ≤ N.length) :
    Rel G F (start N (.ref l :: vs)) H (.own l ps :: (vals ds ++ nos (N.length - (ds.length + 1)))) := by
  cases N with
  | nil => simp at hl
  | cons n N =>
    have r := rel_start (N := N) s h (by simpa using hl)
    have e : start (n :: N) (V.ref l :: vs) = some (V.ref l) :: start N vs := by unfold L2.start; simp
    have e2 : (n :: N).length - (ds.length + 1) = N.length - ds.length := by simp
    rw [e, e2]
    refine ⟨s, by rw [List.length_cons, List.length_cons, r.len], fun i c q => ?_, fun l' i j c d q1 q2 e1 e2 => ?_⟩
    · cases i with
      | zero =>
        cases q
        exact ⟨_, rfl, l, .lst pv, rfl, rfl, h1, h2, pv, rfl, hp⟩
      | succ i => exact r.cel i c (by simpa using q)
    · cases i with
      | zero =>
        cases j with
        | zero => rfl
        | succ j => exact absurd ⟨j, d, by simpa using q2, e2⟩ owns_start
      | succ i => exact absurd ⟨i, c, by simpa using q1, e1⟩ owns_start
theorem owns_start1 {ds ps : List D} {n : Nat} {l a : Addr} : Owns (.own l ps :: (vals ds ++ nos n)) a ↔ a = l := by
  constructor
  · rintro ⟨i, c, h, e⟩
    cases i with
    | zero => cases h; cases e; rfl
    | succ i => exact absurd ⟨i, c, by simpa using h, e⟩ owns_start
  · rintro rfl
    exact ⟨0, _, rfl, rfl⟩
theorem grow_of {F H F' H' : Hp} {O O' : Addr → Prop} (s : Stp F H O F' H' O') (n : ∀ a, ¬ O a) (h : Same F' H') : Grow F H F' H' :=
  ⟨s.fsub, fun a o e => s.frame a o e (n a), h, fun a o e => by
    rcases s.fresh a o e with z | z | z
    · exact .inl z
    · exact .inr z
    · exact absurd z (n a)⟩
end

/-- the context of a def's body -/
abbrev cx0 (P : Program) (w : World) (K : PySem.W.Frag) (mg : Str → Option Value) (base : Heap) (N : List Str) (qual : Str) (st : Stmt) (f : Addr) (cdv : Value) (A : Around) (outer : List Env) (s : Shared) (H : Hp) (E : XK) : Cx := (cxOf CX0 P w K mg base N qual (defScope st) f cdv A outer s H E).nox
section
variable {P : Program} {w : World} {G : Gx} {mg : Str → Option Value} {base : Heap} {x qual : Str} {st : Stmt} {f : Addr} {fd : FuncData} {N ps : List Str} {k : Nat}
theorem fnOk0 {C : List D → Out → Prop} (F : L2.Fun G.K x qual st f fd) (S : FnScope N ps (defScope st)) (hl : ∀ ds o, C ds o → ds.length = ps.length) (hN : ps.length ≤ N.length)
    (body : ∀ cdv A outer s H E, Room k (cx0 P w G.K mg base N qual st f cdv A outer s H E).A → ∀ ds o, C ds o → Sx G (rdSs (cx0 P w G.K mg base N qual st f cdv A outer s H E) (defBody st)) (vals ds ++ nos (N.length - ps.length)) (post0 o)) :
    FnOk P w G.K mg base CX0 (k + 1) f fd ps (sp0 G C) := by
  have hlen : ∀ vs H Q E, sp0 G C vs H Q E → vs.length = ps.length := fun vs H Q E ⟨F, ds, o, _, h, c, _⟩ => h.length.trans (hl ds o c)
  refine F.ok S hlen fun cdv A outer s H vs Q E hr hsp => ?_
  obtain ⟨F0, ds, o, sm, h, c, ret⟩ := hsp
  refine ⟨_, pss_rd, ?_⟩
  have hdl := hl ds o c
  have rl := rel_start (N := N) sm h (by omega)
  rw [hdl] at rl
  have no : ∀ a, ¬ Owns (vals ds ++ nos (N.length - ps.length)) a := fun a => owns_start
  refine body cdv A outer s H E hr ds o c F0 _ H _ rl ?_ ?_ ?_ (fun cs' σ' F' H' hp => ?_) (fun cs' σ' F' H' hp => ?_)
  · intro cs' σ' F' H' hp st r
    cases o with
    | val d =>
      have e : d = .non := hp
      subst e
      exact ret .non F' H' (grow_of st no r.sub) rfl
    | new es => exact False.elim hp
  · intro d cs' σ' F' H' v hp st r q
    cases o with
    | val d' =>
      have e : d = d' := hp
      subst e
      exact ret v F' H' (grow_of st no r.sub) q
    | new es => exact False.elim hp
  · intro es cs' σ' F' H' p vs' hp st r q0 q1 q2 q3 q4
    cases o with
    | val d' => exact False.elim hp
    | new es' =>
      have e : es = es' := hp
      subst e
      exact ret p vs' F' H' (grow_of st no r.sub) (q0.elim id fun z => absurd z (no p)) q2 q3 q4
  · cases o <;> exact False.elim hp
  · cases o <;> exact False.elim hp
theorem fn0 {C : List D → Out → Prop} (F : L2.Fun G.K x qual st f fd) (S : FnScope N ps (defScope st)) (hb : Binds G.K fd ps []) (hl : ∀ ds o, C ds o → ds.length = ps.length) (hN : ps.length ≤ N.length)
    (body : ∀ cdv A outer s H E, Room k (cx0 P w G.K mg base N qual st f cdv A outer s H E).A → ∀ ds o, C ds o → Sx G (rdSs (cx0 P w G.K mg base N qual st f cdv A outer s H E) (defBody st)) (vals ds ++ nos (N.length - ps.length)) (post0 o)) :
    FnR P w G.K mg base CX0 (k + 1) f (sp0 G C) := by
  have := (fnOk0 F S hl hN body).raw hb (dvs := []) .nil
  intro A outer s H us vs Q E hr e0 r hsp
  exact this A outer s H us vs Q E hr e0 r (by show _; simpa using hsp)
theorem stp_pen {F H F' H' : Hp} {O' : Addr → Prop} {l : Addr} {ps ds : List D} {n : Nat} (s : Stp F H (Owns (.own l ps :: (vals ds ++ nos n))) F' H' O') (h : H l ≠ none) : Stp F H (· = l) F' H' (· = l) :=
  ⟨s.fsub, fun a o e z => s.frame a o e fun y => z (owns_start1.mp y), fun a o e => by
    rcases s.fresh a o e with z | z | z
    · exact .inl z
    · exact .inr (.inl z)
    · exact .inr (.inr (owns_start1.mp z)), fun a e => .inl e, s.back⟩
theorem fn1 {C : List D → List D → Out → List D → Prop} (F : L2.Fun G.K x qual st f fd) (S : FnScope N ps (defScope st)) (hb : Binds G.K fd ps []) (hl : ∀ qs ds o qs', C qs ds o qs' → ds.length + 1 = ps.length) (hN : ps.length ≤ N.length)
    (body : ∀ cdv A outer s H E, Room k (cx0 P w G.K mg base N qual st f cdv A outer s H E).A → ∀ l qs ds o qs', C qs ds o qs' → Sx G (rdSs (cx0 P w G.K mg base N qual st f cdv A outer s H E) (defBody st)) (.own l qs :: (vals ds ++ nos (N.length - ps.length))) (post1 l qs' o)) :
    FnR P w G.K mg base CX0 (k + 1) f (sp1 G C) := by
  have hlen : ∀ vs H Q E, sp1 G C vs H Q E → vs.length = ps.length := fun vs H Q E ⟨F, l, pv, us, qs, ds, o, qs', _, e, _, _, _, h, c, _⟩ => by rw [e, List.length_cons, h.length]; exact hl _ _ _ _ c
  have K1 : FnOk P w G.K mg base CX0 (k + 1) f fd ps (sp1 G C) := by
    refine F.ok S hlen fun cdv A outer s H vs Q E hr hsp => ?_
    obtain ⟨F0, l, pv, us, qs, ds, o, qs', sm, rfl, h1, h2, hp, h, c, ret⟩ := hsp
    refine ⟨_, pss_rd, ?_⟩
    have hdl := hl qs ds o qs' c
    have rl := rel_start1 (N := N) sm h1 h2 hp h (by omega)
    rw [hdl] at rl
    have ne : H l ≠ none := by rw [h1]; intro z; cases z
    refine body cdv A outer s H E hr l qs ds o qs' c F0 _ H _ rl ?_ ?_ ?_ (fun cs' σ' F' H' hp => ?_) (fun cs' σ' F' H' hp => ?_)
    · intro cs' σ' F' H' hp st r
      cases o with
      | val d =>
        obtain ⟨e, e2⟩ : d = D.non ∧ cs'[0]? = some (Cell.own l qs') := hp
        subst e
        obtain ⟨pv', _, a1, a2, a3⟩ := r.own e2
        exact ret .non F' H' pv' (stp_pen st ne) r.sub a1 a2 a3 rfl
      | new es => exact False.elim hp
    · intro d cs' σ' F' H' v hp st r q
      cases o with
      | val d' =>
        obtain ⟨e, e2⟩ : d = d' ∧ cs'[0]? = some (Cell.own l qs') := hp
        subst e
        obtain ⟨pv', _, a1, a2, a3⟩ := r.own e2
        exact ret v F' H' pv' (stp_pen st ne) r.sub a1 a2 a3 q
      | new es => exact False.elim hp
    · intro es cs' σ' F' H' p vs' hp st r q0 q1 q2 q3 q4
      cases o with
      | val d' => exact False.elim hp
      | new es' =>
        obtain ⟨e, e2⟩ : es = es' ∧ cs'[0]? = some (Cell.own l qs') := hp
        subst e
        obtain ⟨pv', _, a1, a2, a3⟩ := r.own e2
        refine ret p vs' F' H' pv' (stp_pen st ne) r.sub a1 a2 a3 (q0.elim id fun z => ?_) q2 q3 q4
        have : p = l := owns_start1.mp z
        exact absurd ⟨0, _, e2, by rw [this]; rfl⟩ q1
    · cases o <;> exact False.elim hp
    · cases o <;> exact False.elim hp
  have := K1.raw hb (dvs := []) .nil
  intro A outer s H us vs Q E hr e0 r hsp
  exact this A outer s H us vs Q E hr e0 r (by show _; simpa using hsp)
end

/-! ### calls -/
def Fn0 (G : Gx) (P : Program) (w : World) (mg : Str → Option Value) (base : Heap) (k : Nat) (n : Str) (C : List D → Out → Prop) : Prop := ∃ f, mg n = some (.ref f) ∧ PySem.W.keepIn G.K (.ref f) = true ∧ FnR P w G.K mg base CX0 k f (sp0 G C)
def Fn1 (G : Gx) (P : Program) (w : World) (mg : Str → Option Value) (base : Heap) (k : Nat) (n : Str) (C : List D → List D → Out → List D → Prop) : Prop := ∃ f, mg n = some (.ref f) ∧ PySem.W.keepIn G.K (.ref f) = true ∧ FnR P w G.K mg base CX0 k f (sp1 G C)
section
variable {X : Cx} {G : Gx} {e : Expr} {es : List Expr} {np pos : Pos} {n : Str} {cs cs' cs1 cs2 : List Cell} {d : D} {ds es' qs qs' : List D} {l : Addr} {j k : Nat}
theorem pe_callR {CX : CXT} {f : Addr} {sp : Sp} {E : XK} {t : TA} (F : FnR X.prog X.w X.K X.mg X.base CX k f sp) (hr : Room k X.A) (hk : PySem.W.keepIn X.K (.ref f) = true) (hg : Gl X n) (hm : X.mg n = some (.ref f)) (hx : Passes CX X E) (ha : PA X (e :: es) t) (hd : (n == ("__debug__" : Str)) = false := by decide)
    (he : starEach (e :: es) X.env = (false, eval e X.env) :: starEach es X.env := by rfl) (hpl : (backTo pos (starEach es X.env)).any (·.1) = false := by rfl) :
    PE X (.Call (.Name n np) (e :: es) [] pos) (fun σ H Q => t σ H fun vs H1 => sp vs H1 Q E) := by
  refine ⟨fun pins s σ H Q I h => ?_⟩
  refine wpAny_Call_Name_kw (ld_glob I hg hm ?_ hd)
  refine PySem.W.callWith_K (h₀ := X.base) I.ok.mod.kin hk (thn (ha.run pos pins s σ H _ I h) fun us s1 ⟨vs, H1, I1, r, q⟩ => ⟨I1.kIn, ?_⟩) he hpl
  exact wpAny_call (run_fnR F hr hx I1 r q)
theorem ev_fn0 {C : List D → Out → Prop} (Fn : Fn0 G X.prog X.w X.mg X.base k n C) (hr : Room j X.A) (hk : k ≤ j) (ha : EvV G (rdA X (e :: es)) cs ds cs1) (hC : C ds (.val d)) (hg : Gl X n) (hK : G.K = X.K := by rfl) (hd : (n == ("__debug__" : Str)) = false := by decide)
    (he : starEach (e :: es) X.env = (false, eval e X.env) :: starEach es X.env := by rfl) (hpl : (backTo pos (starEach es X.env)).any (·.1) = false := by rfl) : Ev G (rdE X (.Call (.Name n np) (e :: es) [] pos)) cs d cs1 := by
  obtain ⟨f, hm, kp, F⟩ := Fn
  rw [hK] at kp F
  refine ev_of (pe_callR F (hr.mono hk) kp hg hm pass0 pa_rd hd he hpl) fun F σ H Q rl q => ha F σ H _ rl fun vs F1 H1 st1 r1 q1 => ?_
  exact ⟨F1, ds, .val d, r1.sub, q1, hC, fun v F2 H2 g q2 => q v F2 H2 (st1.trans g.stp) (r1.grow g) q2⟩
theorem evn_fn0 {C : List D → Out → Prop} (Fn : Fn0 G X.prog X.w X.mg X.base k n C) (hr : Room j X.A) (hk : k ≤ j) (ha : EvV G (rdA X (e :: es)) cs ds cs1) (hC : C ds (.new es')) (hg : Gl X n) (hK : G.K = X.K := by rfl) (hd : (n == ("__debug__" : Str)) = false := by decide)
    (he : starEach (e :: es) X.env = (false, eval e X.env) :: starEach es X.env := by rfl) (hpl : (backTo pos (starEach es X.env)).any (·.1) = false := by rfl) : EvN G (rdE X (.Call (.Name n np) (e :: es) [] pos)) cs es' cs1 := by
  obtain ⟨f, hm, kp, F⟩ := Fn
  rw [hK] at kp F
  refine evn_of (pe_callR F (hr.mono hk) kp hg hm pass0 pa_rd hd he hpl) fun F σ H Q rl q => ha F σ H _ rl fun vs F1 H1 st1 r1 q1 => ?_
  exact ⟨F1, ds, .new es', r1.sub, q1, hC, fun p vs F2 H2 g h0 h1 h2 h3 => q p vs F2 H2 (st1.trans g.stp) (r1.grow g) (st1.back p h0) (r1.notOwns h0) h1 h2 h3⟩
theorem pen_back {i : Nat} {F1 H1 F2 H2 : Hp} {σ : L2.St} {pv' : List V} (r1 : Rel G F1 σ H1 cs1) (hi : cs1[i]? = some (.own l qs)) (st : Stp F1 H1 (· = l) F2 H2 (· = l)) (s : Same F2 H2) (h1 : H2 l = some (.lst pv')) (h2 : F2 l = none) (q : IsAll G F2 qs' pv') :
    Rel G F2 σ H2 (cs1.set i (.own l qs')) ∧ Stp F1 H1 (Owns cs1) F2 H2 (Owns (cs1.set i (.own l qs'))) := by
  refine ⟨⟨s, by rw [List.length_set]; exact r1.len, fun a c e => ?_, fun l' a b c d h1 h2 e1 e2 => ?_⟩, ⟨st.fsub, fun a o e n => st.frame a o e fun z => n (by rw [z]; exact .of hi), fun a o e => ?_, fun a e => .inl (Owns.mut hi rfl rfl e), st.back⟩⟩
  · rcases get_set e with ⟨rfl, rfl, _⟩ | ⟨n, e3⟩
    · obtain ⟨vs, e1, _⟩ := r1.own hi
      exact ⟨_, e1, l, .lst pv', rfl, rfl, h1, h2, pv', rfl, q⟩
    · obtain ⟨o, e1, q1⟩ := r1.cel a c e3
      refine ⟨o, e1, q1.mono st.fsub fun l' u ho a1 a2 => ?_⟩
      have nl : l' ≠ l := fun z => n (by subst z; exact r1.inj _ _ _ _ _ hi e3 rfl ho)
      exact ⟨st.frame _ _ a1 nl, free_of st a2 a1 nl⟩
  · have un : ∀ {a : Nat} {c : Cell}, (cs1.set i (.own l qs'))[a]? = some c → Has c l' → ∃ d, cs1[a]? = some d ∧ Has d l' := fun {a c} h he => by
      rcases get_set h with ⟨rfl, z, _⟩ | ⟨_, h⟩
      · rw [z] at he; cases he; exact ⟨_, hi, rfl⟩
      · exact ⟨_, h, he⟩
    obtain ⟨_, h1, e1⟩ := un h1 e1
    obtain ⟨_, h2, e2⟩ := un h2 e2
    exact r1.inj l' a b _ _ h1 h2 e1 e2
  · rcases st.fresh a o e with z | z | z
    · exact .inl z
    · exact .inr (.inl z)
    · exact .inr (.inr (by rw [z]; exact .of hi))
theorem ev_fn1 {C : List D → List D → Out → List D → Prop} (i : Nat) (Fn : Fn1 G X.prog X.w X.mg X.base k n C) (hr : Room j X.A) (hk : k ≤ j) (ha : EvP G (rdA X (e :: es)) cs l ds cs1) (hi : cs1[i]? = some (.own l qs)) (hC : C qs ds (.val d) qs') (hg : Gl X n) (hK : G.K = X.K := by rfl) (hd : (n == ("__debug__" : Str)) = false := by decide)
    (he : starEach (e :: es) X.env = (false, eval e X.env) :: starEach es X.env := by rfl) (hpl : (backTo pos (starEach es X.env)).any (·.1) = false := by rfl) : Ev G (rdE X (.Call (.Name n np) (e :: es) [] pos)) cs d (cs1.set i (.own l qs')) := by
  obtain ⟨f, hm, kp, F⟩ := Fn
  rw [hK] at kp F
  refine ev_of (pe_callR F (hr.mono hk) kp hg hm pass0 pa_rd hd he hpl) fun F σ H Q rl q => ha F σ H _ rl fun vs F1 H1 st1 r1 q1 => ?_
  obtain ⟨pv, _, a1, a2, a3⟩ := r1.own hi
  refine ⟨F1, l, pv, vs, qs, ds, .val d, qs', r1.sub, rfl, a1, a2, a3, q1, hC, fun v F2 H2 pv' st2 s2 h1 h2 h3 h4 => ?_⟩
  obtain ⟨r2, s3⟩ := pen_back r1 hi st2 s2 h1 h2 h3
  exact q v F2 H2 (st1.trans s3) r2 h4
theorem evn_fn1 {C : List D → List D → Out → List D → Prop} (i : Nat) (Fn : Fn1 G X.prog X.w X.mg X.base k n C) (hr : Room j X.A) (hk : k ≤ j) (ha : EvP G (rdA X (e :: es)) cs l ds cs1) (hi : cs1[i]? = some (.own l qs)) (hC : C qs ds (.new es') qs') (hg : Gl X n) (hK : G.K = X.K := by rfl) (hd : (n == ("__debug__" : Str)) = false := by decide)
    (he : starEach (e :: es) X.env = (false, eval e X.env) :: starEach es X.env := by rfl) (hpl : (backTo pos (starEach es X.env)).any (·.1) = false := by rfl) : EvN G (rdE X (.Call (.Name n np) (e :: es) [] pos)) cs es' (cs1.set i (.own l qs')) := by
  obtain ⟨f, hm, kp, F⟩ := Fn
  rw [hK] at kp F
  refine evn_of (pe_callR F (hr.mono hk) kp hg hm pass0 pa_rd hd he hpl) fun F σ H Q rl q => ha F σ H _ rl fun vs F1 H1 st1 r1 q1 => ?_
  obtain ⟨pv, _, a1, a2, a3⟩ := r1.own hi
  refine ⟨F1, l, pv, vs, qs, ds, .new es', qs', r1.sub, rfl, a1, a2, a3, q1, hC, fun p ws F2 H2 pv' st2 s2 h1 h2 h3 h4 h5 h6 h7 => ?_⟩
  obtain ⟨r2, s3⟩ := pen_back r1 hi st2 s2 h1 h2 h3
  exact q p ws F2 H2 (st1.trans s3) r2 (st1.back p h4) (fun z => (r1.notOwns h4) (Owns.mut hi rfl rfl z)) h5 h6 h7
end
end Fx

/-! Operations by data. -/
namespace Fx
open PySem L2
mutual
def toPy : D → PyData
  | .non => .none
  | .bl b => .bool b
  | .int i => .int i
  | .str x => .str x
  | .tup ds => .tuple (toPys ds)
  | .lst ds => .list (toPys ds)
  | .ptup ds => .tuple (toPys ds)
  | _ => .none
def toPys : List D → List PyData
  | [] => []
  | d :: ds => toPy d :: toPys ds
end
theorem toPys_map : ∀ ds : List D, toPys ds = ds.map toPy
  | [] => rfl
  | d :: ds => by
    show toPy d :: toPys ds = _
    rw [toPys_map ds]; rfl
mutual
def plain : D → Bool
  | .non => true
  | .bl _ => true
  | .int _ => true
  | .str x => PyData.canLay0 (.str x)
  | .tup ds => plains ds
  | .lst ds => plains ds
  | .ptup ds => plains ds
  | _ => false
def plains : List D → Bool
  | [] => true
  | d :: ds => plain d && plains ds
end
theorem plains_all : ∀ ds : List D, plains ds = ds.all plain
  | [] => rfl
  | d :: ds => by
    show (plain d && plains ds) = _
    rw [plains_all ds]; rfl
mutual
def deep : D → Nat
  | .tup ds => deeps ds + 1
  | .lst ds => deeps ds + 1
  | .ptup ds => deeps ds + 1
  | _ => 0
def deeps : List D → Nat
  | [] => 0
  | d :: ds => max (deep d) (deeps ds)
end
section
variable {G : Gx} {F H : Hp}
mutual
theorem dp_of (s : Same F H) : ∀ (d : D) (v : V), Is G F d v → plain d = true → Dp G.K H v (toPy d)
  | .non, _, h, _ => by cases h; exact .non
  | .bl b, _, h, _ => by cases h; exact .bl b
  | .int i, _, h, _ => by cases h; exact .int i
  | .str x, _, h, _ => by cases h; exact .str x
  | .tup ds, _, h, p => by
    obtain ⟨a, xs, rfl, h1, h2⟩ := h
    exact .tup (same_t s h1) (dps_of s ds xs h2 p)
  | .lst ds, _, h, p => by
    obtain ⟨a, xs, rfl, h1, h2⟩ := h
    exact .lst (SqL.of (s _ _ h1)) (dps_of s ds xs h2 p)
  | .ptup ds, _, h, p => by
    obtain ⟨a, xs, o, rfl, h1, h2, h3⟩ := h
    exact .tup (.inl (.inr ⟨o, s _ _ h1⟩)) (dps_of s ds xs h3 p)
  | .emp, _, _, p => by cases p
  | .obj _ _, _, _, p => by cases p
  | .scr _, _, _, p => by cases p
  | .cls _, _, _, p => by cases p
theorem dps_of (s : Same F H) : ∀ (ds : List D) (vs : List V), IsAll G F ds vs → plains ds = true → DpAll G.K H vs (toPys ds)
  | [], _, h, _ => by cases h; exact .nil
  | d :: ds, _, h, p => by
    obtain ⟨v, r, rfl, h1, h2⟩ := h
    have p' : (plain d && plains ds) = true := p
    rw [Bool.and_eq_true] at p'
    exact .cons (dp_of s d v h1 p'.1) (dps_of s ds r h2 p'.2)
end
end
mutual
theorem lay_of : ∀ d : D, plain d = true → (toPy d).canLay0 = true
  | .non, _ => rfl
  | .bl _, _ => rfl
  | .int _, _ => rfl
  | .str x, p => p
  | .tup ds, p => lays_of ds p
  | .lst ds, p => lays_of ds p
  | .ptup ds, p => lays_of ds p
  | .emp, p => by cases p
  | .obj _ _, p => by cases p
  | .scr _, p => by cases p
  | .cls _, p => by cases p
theorem lays_of : ∀ ds : List D, plains ds = true → PyData.canLayAll0 (toPys ds) = true
  | [], _ => rfl
  | d :: ds, p => by
    have p' : (plain d && plains ds) = true := p
    rw [Bool.and_eq_true] at p'
    show ((toPy d).canLay0 && PyData.canLayAll0 (toPys ds)) = true
    rw [lay_of d p'.1, lays_of ds p'.2]; rfl
end
mutual
theorem depth_of : ∀ d : D, (toPy d).depth ≤ deep d
  | .non => Nat.le_refl _
  | .bl _ => Nat.le_refl _
  | .int _ => Nat.le_refl _
  | .str _ => Nat.le_refl _
  | .tup ds => Nat.succ_le_succ (depths_of ds)
  | .lst ds => Nat.succ_le_succ (depths_of ds)
  | .ptup ds => Nat.succ_le_succ (depths_of ds)
  | .emp => Nat.le_refl _
  | .obj _ _ => Nat.le_refl _
  | .scr _ => Nat.le_refl _
  | .cls _ => Nat.le_refl _
theorem depths_of : ∀ ds : List D, PyData.depthAll (toPys ds) ≤ deeps ds
  | [] => Nat.le_refl _
  | d :: ds => by
    show max (toPy d).depth (PyData.depthAll (toPys ds)) ≤ max (deep d) (deeps ds)
    have := depth_of d
    have := depths_of ds
    omega
end
/-- data that == and in serve -/
def fine (d : D) : Prop := plain d = true ∧ deep d ≤ 64
theorem fine.shaped {d : D} (h : fine d) : SeqAt.shaped (toPy d) = true := by
  have := depth_of d
  show ((toPy d).canLay0 && decide ((toPy d).depth ≤ 64)) = true
  rw [lay_of d h.1, decide_eq_true (by have := h.2; omega)]; rfl
def eqD (x y : D) : Bool := PyData.eqv (toPy x) (toPy y)

/-! ### operators -/
def BinJ (G : Gx) (X : Cx) (op : Operator) (x y z : D) : Prop := ∃ r, OpR X (binaryOp op) r ∧ OpD G r x y z
def BinN (G : Gx) (X : Cx) (op : Operator) (x y : D) (ds : List D) : Prop := ∃ r, OpR X (binaryOp op) r ∧ OpN G r x y ds
def CmpJ (G : Gx) (X : Cx) (op : CmpOp) (x y : D) (k : Bool) : Prop := ∃ r, OpR X (compareOp op) r ∧ OpD G r x y (.bl k)
def IxJ (G : Gx) (X : Cx) (x y z : D) : Prop := ∃ r, IxR X r ∧ OpD G r x y z
section
variable {X : Cx} {G : Gx} {a b c e : Expr} {es : List Expr} {pos : Pos} {cs cs1 cs2 cs3 : List Cell} {x y z w : D} {ds es' xs ys : List D} {k k1 k2 : Bool} {i j : Int} {s t : Str} {n : Nat}
theorem ev_b {op : Operator} (q : BinJ G X op x y z) (ha : Ev G (rdE X a) cs x cs1) (hb : Ev G (rdE X b) cs1 y cs2) : Ev G (rdE X (.BinOp a op b pos)) cs z cs2 := by
  obtain ⟨r, h1, h2⟩ := q
  exact ev_bin h1 h2 ha hb
theorem evn_b {op : Operator} (q : BinN G X op x y ds) (ha : Ev G (rdE X a) cs x cs1) (hb : Ev G (rdE X b) cs1 y cs2) : EvN G (rdE X (.BinOp a op b pos)) cs ds cs2 := by
  obtain ⟨r, h1, h2⟩ := q
  exact evn_bin h1 h2 ha hb
theorem ev_c {op : CmpOp} (q : CmpJ G X op x y k) (ha : Ev G (rdE X a) cs x cs1) (hb : Ev G (rdE X b) cs1 y cs2) (hm : behindInMarks op b = false := by first | exact nomark _ | rfl) : Ev G (rdE X (.Compare a [op] [b] pos)) cs (.bl k) cs2 := by
  obtain ⟨r, h1, h2⟩ := q
  exact ev_cmp h1 h2 ha hb hm
theorem et_c {op : CmpOp} (q : CmpJ G X op x y k) (ha : Ev G (rdE X a) cs x cs1) (hb : Ev G (rdE X b) cs1 y cs2) (hm : behindInMarks op b = false := by first | exact nomark _ | rfl) : EvT G (rdT X (.Compare a [op] [b] pos)) cs k cs2 := by
  obtain ⟨r, h1, h2⟩ := q
  exact et_cmp h1 h2 ha hb hm
theorem ev_i (q : IxJ G X x y z) (ha : Ev G (rdE X a) cs x cs1) (hb : Ev G (rdE X b) cs1 y cs2) (hs : PlainIx b := by exact fun _ _ => rfl) : Ev G (rdE X (.Subscript a b pos)) cs z cs2 := by
  obtain ⟨r, h1, h2⟩ := q
  exact ev_ix h1 h2 ha hb hs
/-- x <= y <= z -/
theorem ev_cc {op op' : CmpOp} (q : CmpJ G X op x y k) (q2 : k = true → CmpJ G X op' y w k1) (ha : Ev G (rdE X a) cs x cs1) (hb : Ev G (rdE X b) cs1 y cs2) (hc : Ev G (rdE X c) cs2 w cs2)
    (hpe : ∀ {r r' : R2} {t1 t2 t3 : TE}, OpR X (compareOp op) r → OpR X (compareOp op') r' → PE X a t1 → PE X b t2 → PE X c t3 → PE X (.Compare a [op, op'] [b, c] pos) (tChain r r' t1 t2 t3)) : Ev G (rdE X (.Compare a [op, op'] [b, c] pos)) cs (.bl (k && k1)) cs2 := by
  obtain ⟨r, h1, h2⟩ := q
  cases k with
  | true =>
    obtain ⟨r', h3, h4⟩ := q2 rfl
    exact ev_chain h1 h3 h2 (fun _ => h4) ha hb (fun _ => hc) (hpe h1 h3)
  | false => exact ev_chain (w := w) (r' := fun _ _ _ _ => False) (k1 := k1) h1 (fun _ _ _ _ _ _ _ _ _ _ _ _ h => h.elim) h2 (fun z => by cases z) ha hb (fun z => by cases z) (hpe h1 (fun _ _ _ _ _ _ _ _ _ _ _ _ h => h.elim))
theorem od_I0 {g : Int → Int → V} (hz : ∀ F, Is G F z (g i j)) : OpD G (rI0 g) (.int i) (.int j) z := fun F H v w Q s h1 h2 q => by
  cases h1; cases h2
  exact ⟨i, j, rfl, rfl, q _ F H (.refl s) (hz F)⟩
theorem od_I {C : Int → Int → Prop} {g : Int → Int → V} (hc : C i j) (hz : ∀ F, Is G F z (g i j)) : OpD G (rI C g) (.int i) (.int j) z := fun F H v w Q s h1 h2 q => by
  cases h1; cases h2
  exact ⟨i, j, rfl, rfl, hc, q _ F H (.refl s) (hz F)⟩
theorem b_add : BinJ G X .Add (.int i) (.int j) (.int (i + j)) := ⟨_, op_add, od_I0 fun _ => rfl⟩
theorem b_sub : BinJ G X .Sub (.int i) (.int j) (.int (i - j)) := ⟨_, op_sub, od_I0 fun _ => rfl⟩
theorem b_mul (h : CMul i j) : BinJ G X .Mult (.int i) (.int j) (.int (i * j)) := ⟨_, op_mul, od_I h fun _ => rfl⟩
theorem b_mod (h : 0 < j) : BinJ G X .Mod (.int i) (.int j) (.int (i % j)) := ⟨_, op_mod, od_I h fun _ => rfl⟩
theorem b_div (h : CDivW i j) : BinJ G X .FloorDiv (.int i) (.int j) (.int (i / j)) := ⟨_, op_fdivW, od_I h fun _ => rfl⟩
theorem b_pow (h : CPow i j) : BinJ G X .Pow (.int i) (.int j) (.int (i ^ j.toNat)) := ⟨_, op_pow, od_I h fun _ => rfl⟩
theorem b_addS (h : s.length + t.length ≤ 10000000) : BinJ G X .Add (.str s) (.str t) (.str (s ++ t)) := ⟨_, op_add_str, fun F H v w Q sm h1 h2 q => by
  cases h1; cases h2
  exact ⟨s, t, rfl, rfl, Nat.le_trans h (by decide), q _ F H (.refl sm) rfl⟩⟩
theorem b_addL (h : xs.length + ys.length ≤ 10000000) : BinN G X .Add (.lst xs) (.lst ys) (xs ++ ys) := ⟨_, op_cat, fun F H v w Q sm h1 h2 q => by
  obtain ⟨p, vs, rfl, a1, a2⟩ := h1
  obtain ⟨p', ws, rfl, b1, b2⟩ := h2
  exact ⟨p, p', vs, ws, rfl, rfl, sm _ _ a1, sm _ _ b1, by rw [a2.length, b2.length]; exact Nat.le_trans h (by decide), fun l hl => q l _ hl (a2.append b2)⟩⟩
theorem b_addT (h : xs.length + ys.length ≤ 10000000) (hK : G.K = X.K := by rfl) : BinJ G X .Add (.tup xs) (.tup ys) (.tup (xs ++ ys)) := ⟨_, op_catA, fun F H v w Q sm h1 h2 q => by
  have h1' := h1
  have h2' := h2
  obtain ⟨p, vs, rfl, a1, a2⟩ := h1
  obtain ⟨p', ws, rfl, b1, b2⟩ := h2
  rw [hK] at a1 b1
  refine ⟨p, p', vs, ws, rfl, rfl, same_t sm a1, same_t sm b1, by rw [a2.length, b2.length]; exact Nat.le_trans h (by decide), fun e => ?_, fun _ e => ?_, fun _ _ l hl => ?_⟩
  · have : xs = [] := List.eq_nil_of_length_eq_zero (by rw [← a2.length, e]; rfl)
    subst this
    exact q _ F H (.refl sm) h2'
  · have : ys = [] := List.eq_nil_of_length_eq_zero (by rw [← b2.length, e]; rfl)
    subst this
    rw [List.append_nil] at q
    exact q _ F H (.refl sm) h1'
  · have g := grow_know (o := .tup (vs ++ ws)) sm hl
    exact q _ _ _ g ⟨l, _, rfl, SqT.of upd_same, IsAll.mono g.fsub _ (a2.append b2)⟩⟩
/-! comparisons -/
theorem c_lt : CmpJ G X .Lt (.int i) (.int j) (decide (i < j)) := ⟨_, op_lt, od_I0 fun _ => rfl⟩
theorem c_le : CmpJ G X .LtE (.int i) (.int j) (decide (i ≤ j)) := ⟨_, op_le, od_I0 fun _ => rfl⟩
theorem c_gt : CmpJ G X .Gt (.int i) (.int j) (decide (j < i)) := ⟨_, op_gt, od_I0 fun _ => rfl⟩
theorem c_ge : CmpJ G X .GtE (.int i) (.int j) (decide (j ≤ i)) := ⟨_, op_ge, od_I0 fun _ => rfl⟩
theorem c_eq : CmpJ G X .Eq (.int i) (.int j) (decide (i = j)) := ⟨_, op_eq, fun F H v w Q sm h1 h2 q => by
  cases h1; cases h2
  refine ⟨rfl, ?_⟩
  rw [show decide (V.int i = V.int j) = decide (i = j) by rw [dec_int, Bool.beq_eq_decide_eq]]
  exact q _ F H (.refl sm) rfl⟩
theorem c_ne : CmpJ G X .NotEq (.int i) (.int j) (!decide (i = j)) := ⟨_, op_ne, fun F H v w Q sm h1 h2 q => by
  cases h1; cases h2
  refine ⟨rfl, ?_⟩
  rw [show decide (V.int i = V.int j) = decide (i = j) by rw [dec_int, Bool.beq_eq_decide_eq]]
  exact q _ F H (.refl sm) rfl⟩
theorem c_eqS : CmpJ G X .Eq (.str s) (.str t) (decide (s = t)) := ⟨_, op_eq, fun F H v w Q sm h1 h2 q => by
  cases h1; cases h2
  refine ⟨rfl, ?_⟩
  rw [show decide (V.str s = V.str t) = decide (s = t) by rw [dec_str, Bool.beq_eq_decide_eq]]
  exact q _ F H (.refl sm) rfl⟩
theorem c_neS : CmpJ G X .NotEq (.str s) (.str t) (!decide (s = t)) := ⟨_, op_ne, fun F H v w Q sm h1 h2 q => by
  cases h1; cases h2
  refine ⟨rfl, ?_⟩
  rw [show decide (V.str s = V.str t) = decide (s = t) by rw [dec_str, Bool.beq_eq_decide_eq]]
  exact q _ F H (.refl sm) rfl⟩
theorem c_eqD (hu : X.A.units + 64 < cLine) (hx : fine x) (hy : fine y) (hK : G.K = X.K := by rfl) : CmpJ G X .Eq x y (eqD x y) := ⟨_, op_eqD hu, fun F H v w Q sm h1 h2 q => by
  have d1 := dp_of sm x v h1 hx.1
  have d2 := dp_of sm y w h2 hy.1
  rw [hK] at d1 d2
  exact ⟨_, _, d1, d2, hx.shaped, hy.shaped, q _ F H (.refl sm) rfl⟩⟩
theorem c_neD (hu : X.A.units + 64 < cLine) (hx : fine x) (hy : fine y) (hK : G.K = X.K := by rfl) : CmpJ G X .NotEq x y (!eqD x y) := ⟨_, op_neD hu, fun F H v w Q sm h1 h2 q => by
  have d1 := dp_of sm x v h1 hx.1
  have d2 := dp_of sm y w h2 hy.1
  rw [hK] at d1 d2
  exact ⟨_, _, d1, d2, hx.shaped, hy.shaped, q _ F H (.refl sm) rfl⟩⟩
theorem toPys_any (x : D) : ∀ ds : List D, ((toPys ds).any fun z => PyData.eqv z (toPy x)) = ds.any fun z => eqD z x
  | [] => rfl
  | d :: ds => by
    show (PyData.eqv (toPy d) (toPy x) || (toPys ds).any _) = _
    rw [toPys_any x ds]; rfl
theorem c_inL (hu : X.A.units + 65 < cLine) (hx : fine x) (hy : fine (.lst ds)) (hK : G.K = X.K := by rfl) : CmpJ G X .In x (.lst ds) (ds.any fun z => eqD z x) := ⟨_, op_inD hu, fun F H v w Q sm h1 h2 q => by
  have d1 := dp_of sm x v h1 hx.1
  have d2 := dp_of sm _ w h2 hy.1
  rw [hK] at d1 d2
  refine ⟨_, toPys ds, d1, d2, hx.shaped, hy.shaped, ?_⟩
  rw [toPys_any]
  exact q _ F H (.refl sm) rfl⟩
theorem c_niL (hu : X.A.units + 65 < cLine) (hx : fine x) (hy : fine (.lst ds)) (hK : G.K = X.K := by rfl) : CmpJ G X .NotIn x (.lst ds) (!ds.any fun z => eqD z x) := ⟨_, op_notInD hu, fun F H v w Q sm h1 h2 q => by
  have d1 := dp_of sm x v h1 hx.1
  have d2 := dp_of sm _ w h2 hy.1
  rw [hK] at d1 d2
  refine ⟨_, toPys ds, d1, d2, hx.shaped, hy.shaped, ?_⟩
  rw [toPys_any]
  exact q _ F H (.refl sm) rfl⟩
def isN : D → Bool
  | .non => true
  | _ => false
theorem is_non {F : Hp} : ∀ {x : D} {v : V}, Is G F x v → decide (v = .non) = isN x
  | .non, _, h => by cases h; rfl
  | .bl _, _, h => by cases h; rfl
  | .int _, _, h => by cases h; rfl
  | .str _, _, h => by cases h; rfl
  | .tup _, _, h => by obtain ⟨_, _, rfl, _⟩ := h; rfl
  | .lst _, _, h => by obtain ⟨_, _, rfl, _⟩ := h; rfl
  | .emp, _, h => by obtain ⟨_, rfl, _⟩ := h; rfl
  | .obj _ _, _, h => by obtain ⟨_, _, _, rfl, _⟩ := h; rfl
  | .scr _, _, h => by obtain ⟨_, rfl, _⟩ := h; rfl
  | .cls _, _, h => by cases h; rfl
  | .ptup _, _, h => by obtain ⟨_, _, _, rfl, _⟩ := h; rfl
theorem c_isN : CmpJ G X .Is x .non (isN x) := ⟨_, op_isN, fun F H v w Q sm h1 h2 q => by
  cases h2
  refine ⟨rfl, ?_⟩
  rw [is_non h1]
  exact q _ F H (.refl sm) rfl⟩
theorem c_notN : CmpJ G X .IsNot x .non (!isN x) := ⟨_, op_notN, fun F H v w Q sm h1 h2 q => by
  cases h2
  refine ⟨rfl, ?_⟩
  rw [is_non h1]
  exact q _ F H (.refl sm) rfl⟩
/-! items -/
theorem atI_get {α : Type} {l : List α} {i : Int} {j : Nat} (h : ixN l.length i = some j) : atI l i = l[j]? := by unfold atI; rw [h]; rfl
theorem i_lst {m : Nat} (h : ixN xs.length i = some m) (hz : xs[m]? = some z) : IxJ G X (.lst xs) (.int i) z := ⟨_, ix_list, fun F H v w Q sm h1 h2 q => by
  obtain ⟨p, vs, rfl, a1, a2⟩ := h1
  cases h2
  obtain ⟨u, e, q1⟩ := a2.get hz
  exact ⟨p, vs, i, u, rfl, rfl, SqL.of (sm _ _ a1), by rw [atI_get (j := m) (by rw [a2.length]; exact h)]; exact e, q u F H (.refl sm) q1⟩⟩
theorem i_tup {m : Nat} (h : ixN xs.length i = some m) (hz : xs[m]? = some z) (hK : G.K = X.K := by rfl) : IxJ G X (.tup xs) (.int i) z := ⟨_, ix_tup, fun F H v w Q sm h1 h2 q => by
  obtain ⟨p, vs, rfl, a1, a2⟩ := h1
  cases h2
  obtain ⟨u, e, q1⟩ := a2.get hz
  rw [hK] at a1
  exact ⟨p, vs, i, u, rfl, rfl, same_t sm a1, by rw [atI_get (j := m) (by rw [a2.length]; exact h)]; exact e, q u F H (.refl sm) q1⟩⟩
theorem i_scr {m : Nat} {ns : List Int} (h : ixN ns.length i = some m) (hz : ns[m]? = some j) (hK : G.K = X.K := by rfl) : IxJ G X (.scr ns) (.int i) (.int j) := ⟨_, ix_list, fun F H v w Q sm h1 h2 q => by
  obtain ⟨p, rfl, a1⟩ := h1
  cases h2
  rw [hK] at a1
  refine ⟨p, _, i, .int j, rfl, rfl, same_l sm a1, ?_, q _ F H (.refl sm) rfl⟩
  rw [atI_get (j := m) (by rw [List.length_map]; exact h), List.getElem?_map, hz]; rfl⟩
theorem ixN_nat {n j : Nat} (hj : j < n) : ixN n (j : Int) = some j := by
  unfold ixN
  rw [if_pos (by omega), if_pos (by omega)]
  simp
theorem ixN_last {n : Nat} (h : 0 < n) : ixN n (-1) = some (n - 1) := by
  unfold ixN
  rw [if_neg (by decide), if_pos (by omega)]
  congr 1
  omega
/-! built-in functions -/
theorem cd_len (h : x = .lst xs ∨ x = .tup xs) (hK : G.K = X.K := by rfl) : CallD G (fun vs H Q => ∃ p ys, vs = [.ref p] ∧ (SqL X.K H p ys ∨ SqT X.K H p ys) ∧ Q (.int ys.length) H) [x] (.int (xs.length : Int)) := fun F H vs Q sm h1 q => by
  obtain ⟨v, r, rfl, hv, hr⟩ := h1
  cases hr
  rcases h with rfl | rfl
  · obtain ⟨p, ws, rfl, a1, a2⟩ := hv
    refine ⟨p, ws, rfl, .inl (SqL.of (sm _ _ a1)), ?_⟩
    rw [a2.length]
    exact q _ F H (.refl sm) rfl
  · obtain ⟨p, ws, rfl, a1, a2⟩ := hv
    rw [hK] at a1
    refine ⟨p, ws, rfl, .inr (same_t sm a1), ?_⟩
    rw [a2.length]
    exact q _ F H (.refl sm) rfl
theorem ev_len {np : Pos} (h : x = .lst xs ∨ x = .tup xs) (ha : Ev G (rdE X e) cs x cs1) (hm : X.mg "len" = none) (hg : Gl X "len") (hK : G.K = X.K := by rfl) (hs : starEach [e] X.env = (false, eval e X.env) :: starEach [] X.env := by rfl) (hpl : (backTo pos (starEach [] X.env)).any (·.1) = false := by rfl) :
    Ev G (rdE X (.Call (.Name "len" np) [e] [] pos)) cs (.int (xs.length : Int)) cs1 := ev_callB call_len_seq (cd_len h hK) (evv_cons ha evv_nil hs) hg hm PySem.boot_len (by decide) (by decide) hs hpl
theorem ev_lenL {np : Pos} (ha : Ev G (rdE X e) cs (.lst xs) cs1) (hm : X.mg "len" = none) (hg : Gl X "len") (hK : G.K = X.K := by rfl) (hs : starEach [e] X.env = (false, eval e X.env) :: starEach [] X.env := by rfl) (hpl : (backTo pos (starEach [] X.env)).any (·.1) = false := by rfl) :
    Ev G (rdE X (.Call (.Name "len" np) [e] [] pos)) cs (.int (xs.length : Int)) cs1 := ev_len (.inl rfl) ha hm hg hK hs hpl
theorem ev_lenT {np : Pos} (ha : Ev G (rdE X e) cs (.tup xs) cs1) (hm : X.mg "len" = none) (hg : Gl X "len") (hK : G.K = X.K := by rfl) (hs : starEach [e] X.env = (false, eval e X.env) :: starEach [] X.env := by rfl) (hpl : (backTo pos (starEach [] X.env)).any (·.1) = false := by rfl) :
    Ev G (rdE X (.Call (.Name "len" np) [e] [] pos)) cs (.int (xs.length : Int)) cs1 := ev_len (.inr rfl) ha hm hg hK hs hpl
/-! ### a list of ours, looked at -/
def minus (F : Hp) (l : Addr) : Hp := fun a => if a = l then none else F a
theorem minus_ne {F : Hp} {l a : Addr} (h : a ≠ l) : minus F l a = F a := if_neg h
theorem minus_same {F : Hp} {l : Addr} : minus F l l = none := if_pos rfl
mutual
def imm : D → Bool
  | .non => true
  | .bl _ => true
  | .int _ => true
  | .str _ => true
  | .tup ds => imms ds
  | _ => false
def imms : List D → Bool
  | [] => true
  | d :: ds => imm d && imms ds
end
theorem imms_all : ∀ ds : List D, imms ds = ds.all imm
  | [] => rfl
  | d :: ds => by
    show (imm d && imms ds) = _
    rw [imms_all ds]; rfl
mutual
theorem imm_minus {F : Hp} {l : Addr} {vs : List V} (hl : F l = some (.lst vs)) : ∀ (d : D) {v : V}, Is G F d v → imm d = true → Is G (minus F l) d v
  | .non, _, h, _ => h
  | .bl _, _, h, _ => h
  | .int _, _, h, _ => h
  | .str _, _, h, _ => h
  | .tup ds, _, h, p => by
    obtain ⟨a, xs, rfl, h1, h2⟩ := h
    refine ⟨a, xs, rfl, ?_, imms_minus hl ds h2 p⟩
    rcases h1 with (h1 | ⟨o, h1⟩) | h1
    · exact .inl (.inl (by rw [minus_ne (ne_of h1 hl (by intro z; cases z))]; exact h1))
    · exact .inl (.inr ⟨o, by rw [minus_ne (ne_of h1 hl (by intro z; cases z))]; exact h1⟩)
    · exact .inr h1
  | .lst _, _, _, p => by cases p
  | .emp, _, _, p => by cases p
  | .obj _ _, _, _, p => by cases p
  | .scr _, _, _, p => by cases p
  | .cls _, _, _, p => by cases p
  | .ptup _, _, _, p => by cases p
theorem imms_minus {F : Hp} {l : Addr} {vs : List V} (hl : F l = some (.lst vs)) : ∀ (ds : List D) {us : List V}, IsAll G F ds us → imms ds = true → IsAll G (minus F l) ds us
  | [], _, h, _ => h
  | d :: ds, _, h, p => by
    obtain ⟨v, r, rfl, h1, h2⟩ := h
    have p' : (imm d && imms ds) = true := p
    rw [Bool.and_eq_true] at p'
    exact ⟨v, r, rfl, imm_minus hl d h1 p'.1, imms_minus hl ds h2 p'.2⟩
end
theorem grow_peek {F H F2 H2 : Hp} {l : Addr} {o : HO} (sm : Same F H) (h2 : F l = none) (h1 : H l = some o) (g : Grow (upd F l o) H F2 H2) : Grow F H (minus F2 l) H2 := by
  refine ⟨fun a u e => ?_, g.hsub, fun a u e => ?_, fun a u e => ?_⟩
  · have n := ne_of_none e h2
    rw [minus_ne n]
    exact g.fsub a u (by rw [upd_ne n]; exact e)
  · have n : a ≠ l := fun z => by rw [z, minus_same] at e; cases e
    rw [minus_ne n] at e
    exact g.sub a u e
  · have n : a ≠ l := fun z => by rw [z, minus_same] at e; cases e
    rw [minus_ne n] at e
    rcases g.fresh a u e with z | z
    · rw [upd_ne n] at z; exact .inl z
    · exact .inr z
theorem same_peek {F H : Hp} {l : Addr} {o : HO} (sm : Same F H) (h1 : H l = some o) : Same (upd F l o) H := fun a u e => by
  by_cases z : a = l
  · subst z; rw [upd_same] at e; cases e; exact h1
  · rw [upd_ne z] at e; exact sm a u e
theorem up_peek {F : Hp} {l : Addr} {o : HO} (h : F l = none) : Same F (upd F l o) := fun a u e => by rw [upd_ne (ne_of_none e h)]; exact e
section
variable {p : Nat} {l : Addr} {nm : Str} {np : Pos}
/-- a op xs, xs ours -/
theorem ev_tOpO {r : R2} {ta : TE} (ha : Ev G ta cs x cs1) (hi : cs1[p]? = some (.own l ds)) (hr : OpD G r x (.lst ds) z) (hz : imm z = true) : Ev G (tOp r ta (tVar p)) cs z cs1 := fun F σ H Q rl q =>
  ha F σ H _ rl fun v F1 H1 st1 r1 q1 => by
    obtain ⟨vs, e1, h1, h2, h3⟩ := r1.own hi
    refine ⟨_, e1, hr (upd F1 l (.lst vs)) H1 v (.ref l) Q (same_peek r1.sub h1) (Is.mono (up_peek h2) x q1) ⟨l, vs, rfl, upd_same, IsAll.mono (up_peek h2) ds h3⟩ fun u F2 H2 g q2 => ?_⟩
    have g2 := grow_peek r1.sub h2 h1 g
    exact q u _ H2 (st1.trans g2.stp) (r1.grow g2) (imm_minus (g.fsub _ _ upd_same) z q2 hz)
/-- xs op b, xs ours -/
theorem ev_tOpO1 {r : R2} {tb : TE} (h0 : cs[p]? = some (.own l es')) (hb : Ev G tb cs y cs1) (hi : cs1[p]? = some (.own l ds)) (hr : OpD G r (.lst ds) y z) (hz : imm z = true) : Ev G (tOp r (tVar p) tb) cs z cs1 := fun F σ H Q rl q => by
    obtain ⟨vs0, e0, _⟩ := rl.own h0
    refine ⟨_, e0, hb F σ H _ rl fun v F1 H1 st1 r1 q1 => ?_⟩
    obtain ⟨vs, e1, h1, h2, h3⟩ := r1.own hi
    refine hr (upd F1 l (.lst vs)) H1 (.ref l) v Q (same_peek r1.sub h1) ⟨l, vs, rfl, upd_same, IsAll.mono (up_peek h2) ds h3⟩ (Is.mono (up_peek h2) y q1) fun u F2 H2 g q2 => ?_
    have g2 := grow_peek r1.sub h2 h1 g
    exact q u _ H2 (st1.trans g2.stp) (r1.grow g2) (imm_minus (g.fsub _ _ upd_same) z q2 hz)
theorem ev_cO (p : Nat) {op : CmpOp} (q : CmpJ G X op x (.lst ds) k) (ha : Ev G (rdE X a) cs x cs1) (hi : cs1[p]? = some (.own l ds)) (hN : X.N[p]? = some nm) (hv : Vis X.env.scope nm) (hm : behindInMarks op (.Name nm np) = false := by first | exact nomark _ | rfl) (hd : (nm == ("__debug__" : Str)) = false := by decide) (hcd : (nm == ("__classdict__" : Str)) = false := by decide) :
    Ev G (rdE X (.Compare a [op] [.Name nm np] pos)) cs (.bl k) cs1 := by
  obtain ⟨r, h1, h2⟩ := q
  exact ev_of (pe_cmpR h1 pe_rd (pe_var hN hv hd hcd) hm) (ev_tOpO ha hi h2 rfl)
theorem et_cO (p : Nat) {op : CmpOp} (q : CmpJ G X op x (.lst ds) k) (ha : Ev G (rdE X a) cs x cs1) (hi : cs1[p]? = some (.own l ds)) (hN : X.N[p]? = some nm) (hv : Vis X.env.scope nm) (hm : behindInMarks op (.Name nm np) = false := by first | exact nomark _ | rfl) (hd : (nm == ("__debug__" : Str)) = false := by decide) (hcd : (nm == ("__classdict__" : Str)) = false := by decide) :
    EvT G (rdT X (.Compare a [op] [.Name nm np] pos)) cs k cs1 := by
  obtain ⟨r, h1, h2⟩ := q
  exact evt_of (pt_cmpR h1 pe_rd (pe_var hN hv hd hcd) hm) (et_tTest (ev_tOpO ha hi h2 rfl))
theorem et_cO1 (p : Nat) {op : CmpOp} (q : CmpJ G X op (.lst ds) y k) (h0 : cs[p]? = some (.own l es')) (hb : Ev G (rdE X b) cs y cs1) (hi : cs1[p]? = some (.own l ds)) (hN : X.N[p]? = some nm) (hv : Vis X.env.scope nm) (hm : behindInMarks op b = false := by first | exact nomark _ | rfl) (hd : (nm == ("__debug__" : Str)) = false := by decide) (hcd : (nm == ("__classdict__" : Str)) = false := by decide) :
    EvT G (rdT X (.Compare (.Name nm np) [op] [b] pos)) cs k cs1 := by
  obtain ⟨r, h1, h2⟩ := q
  exact evt_of (pt_cmpR h1 (pe_var hN hv hd hcd) pe_rd hm) (et_tTest (ev_tOpO1 h0 hb hi h2 rfl))
/-- xs[e], xs ours -/
theorem ev_iO (p : Nat) (q : IxJ G X (.lst ds) y z) (h0 : cs[p]? = some (.own l es')) (hb : Ev G (rdE X b) cs y cs1) (hi : cs1[p]? = some (.own l ds)) (hz : imm z = true) (hN : X.N[p]? = some nm) (hv : Vis X.env.scope nm) (hs : PlainIx b := by exact fun _ _ => rfl) (hd : (nm == ("__debug__" : Str)) = false := by decide) (hcd : (nm == ("__classdict__" : Str)) = false := by decide) :
    Ev G (rdE X (.Subscript (.Name nm np) b pos)) cs z cs1 := by
  obtain ⟨r, h1, h2⟩ := q
  exact ev_of (pe_ix h1 (pe_var hN hv hd hcd) pe_rd hs) (ev_tOpO1 h0 hb hi h2 hz)
theorem ev_lenO (p : Nat) {lp : Pos} (hi : cs[p]? = some (.own l ds)) (hN : X.N[p]? = some nm) (hv : Vis X.env.scope nm) (hm : X.mg "len" = none) (hg : Gl X "len") (hd : (nm == ("__debug__" : Str)) = false := by decide) (hcd : (nm == ("__classdict__" : Str)) = false := by decide)
    (hs : starEach [.Name nm np] X.env = (false, eval (.Name nm np) X.env) :: starEach [] X.env := by rfl) (hpl : (backTo pos (starEach [] X.env)).any (·.1) = false := by rfl) :
    Ev G (rdE X (.Call (.Name "len" lp) [.Name nm np] [] pos)) cs (.int (ds.length : Int)) cs :=
  ev_of (pe_callB call_len_seq hg hm PySem.boot_len (pa_cons (pe_var hN hv hd hcd) pa_nil hs) (by decide) (by decide) hs hpl) fun F σ H Q rl q => by
    obtain ⟨vs, e1, h1, h2, h3⟩ := rl.own hi
    refine ⟨_, e1, l, vs, rfl, .inl (SqL.of h1), ?_⟩
    rw [h3.length]
    exact q _ F H .refl rl rfl
end
theorem ev_neg (ha : Ev G (rdE X a) cs (.int i) cs1) : Ev G (rdE X (.UnaryOp .USub a pos)) cs (.int (-i)) cs1 := ev_un un_neg (fun F H v Q sm h1 q => by
  cases h1
  exact ⟨i, rfl, q _ F H (.refl sm) rfl⟩) ha
end
end Fx

namespace Fx
open PySem L2
theorem plains_of {ds : List D} (h : ∀ d ∈ ds, plain d = true) : plains ds = true := by
  rw [plains_all]
  exact List.all_eq_true.mpr h
theorem deeps_le {n : Nat} : ∀ {ds : List D}, (∀ d ∈ ds, deep d ≤ n) → deeps ds ≤ n
  | [], _ => Nat.zero_le _
  | d :: ds, h => by
    show max (deep d) (deeps ds) ≤ n
    have h1 := h d (by simp)
    have h2 := deeps_le (ds := ds) fun e he => h e (by simp [he])
    omega
theorem fine_lst {ds : List D} (h : ∀ d ∈ ds, plain d = true ∧ deep d ≤ 30) : fine (.lst ds) := ⟨plains_of fun d hd => (h d hd).1, by
  show deeps ds + 1 ≤ 64
  have := deeps_le (n := 30) fun d hd => (h d hd).2
  omega⟩
theorem fine_tup {ds : List D} (h : ∀ d ∈ ds, plain d = true ∧ deep d ≤ 30) : fine (.tup ds) := ⟨plains_of fun d hd => (h d hd).1, by
  show deeps ds + 1 ≤ 64
  have := deeps_le (n := 30) fun d hd => (h d hd).2
  omega⟩
theorem ints_flat {ns : List Int} : ∀ d ∈ ns.map D.int, plain d = true ∧ deep d ≤ 0 := fun d hd => by
  obtain ⟨n, _, rfl⟩ := List.mem_map.mp hd
  exact ⟨rfl, Nat.le_refl _⟩
theorem tup_ints {ns : List Int} : plain (.tup (ns.map D.int)) = true ∧ deep (.tup (ns.map D.int)) ≤ 1 := ⟨plains_of fun d hd => (ints_flat d hd).1, Nat.succ_le_succ (deeps_le fun d hd => (ints_flat d hd).2)⟩
theorem eqD_nil (xs : List D) : eqD (.lst xs) (.lst []) = xs.isEmpty := by cases xs <;> rfl
theorem eqD_int (i j : Int) : eqD (.int i) (.int j) = (i == j) := rfl
theorem any_int (x : Int) (ns : List Int) : ((ns.map D.int).any fun z => eqD z (.int x)) = ns.contains x := by
  induction ns with
  | nil => rfl
  | cons n ns ih =>
    rw [List.map_cons, List.any_cons, ih, eqD_int, List.contains_cons]
    congr 1
    rw [Bool.eq_iff_iff]
    simp
    constructor <;> exact fun h => h.symm
end Fx

/-! sorted(set(xs)) of a list of ints. -/
namespace Fx
open PySem L2 PySem.Spec PyProof.Rows Mt
abbrev o0 (w : World) : Obj := { cls := .type "set", dict := none, data := .set #[] 0 (.fresh 0 0 (!w.params.followText "set-order")) }
section
variable {P : Program} {w : World} {A : Around} {E : Value → Shared → Prop} {s : Shared}
/-- what set.__init__ leaves, the argument a list of ints -/
def SetEnd (w : World) (s : Shared) (ns : List Int) (s2 : Shared) : Prop := ∃ (h2 : Heap) (tk n : Nat), s2 = { s with heap := h2, toks := tk } ∧ SetR w h2 s.heap.objs.size (fun j => decide (j ∈ ns)) n ∧ n ≤ ns.length ∧ ∀ b o, s.heap.get? b = some o → h2.get? b = some o
theorem set_of_list {l : Addr} {its : Array Value} (ns : List Int) {Q : Value → Shared → Prop} (hh : A.handled = none) (hl : s.heap.IsList l its) (hi : IntsAre its.toList ns) (hb : ns.length + 1 < scanBound)
    (q : ∀ s2, SetEnd w s ns s2 → Q (.ref s.heap.objs.size) s2) : wpAny (model P w) A (call (.type "set") [.ref l]) Q E s := by
  have hz : its.size = ns.length := by
    have y := IntsAre.length hi
    rwa [Array.length_toList] at y
  obtain ⟨c, tl, hmro⟩ := F.called_set.mro
  have hmade := F.called_set.made
  have hsub := F.called_set.sub
  have h1 := F.called_set.notType
  have h2 := F.called_set.canCreate
  have hct := F.typeCall_set_1 (.ref l)
  refine wpAny_call (codeAny_of_tree ?_)
  show wpAny _ _ (callAny (.type "set") _) _ _ _
  refine wpAny_pure ⟨Code.quiet_builtin _ (by decide +kernel), codeAny_builtin F.entry_type_call ?_⟩
  rw [Around.under_plain (weight_type_call_type "set" [.ref l] []) rfl]
  repeat (any_goals (first | assumption | wp_step))
  refine codeAny_mono (code_set_led1 (.ref l) (E := E) (Q₁ := fun u t => u = .ref s.heap.objs.size ∧ t = { s with heap := s.heap.push (o0 w) }) ⟨rfl, rfl⟩) fun r t hr => ?_
  cases r with
  | error e => exact hr
  | ok fl =>
    cases fl with
    | next => exact hr.elim
    | brk => exact hr.elim
    | cont => exact hr.elim
    | ret u =>
      obtain ⟨rfl, rfl⟩ := hr
      have hS : (s.heap.push (o0 w)).get? s.heap.objs.size = some (o0 w) := Heap.get?_push_size _ rfl
      have hT : Shared.TypeIs { s with heap := s.heap.push (o0 w) } (.ref s.heap.objs.size) "set" := ⟨_, hS, rfl⟩
      have hli := F.called_set.init.lookup
      have hbi := F.called_set.init.bind (.ref s.heap.objs.size)
      repeat (any_goals (first | assumption | wp_step))
      refine codeAny_mono (codeAny_call_builtin (R := wants (fun r s2 => r = .none ∧ SetEnd w s ns s2) E) F.called_set.init.plain F.entry_set_init (check_set_init_1 hT ?_)) fun r2 s2 hr2 => ?_
      · obtain ⟨ol, hol, hcl, nl, hdl⟩ := hl
        obtain ⟨oc, od, ot, os⟩ := ol
        simp only at hcl hdl
        subst hcl
        subst hdl
        have hol2 : (s.heap.push (o0 w)).get? l = some { cls := .type "list", dict := od, data := .seq its nl, slots := os } := Heap.get?_push_of_some _ hol
        have n1 := F.sub_list_set
        have n2 := F.sub_list_frozenset
        have n3 : (Value.type "list" == Value.type "dict") = false := by decide
        have hl2 : (s.heap.push (o0 w)).IsList l its := ⟨_, hol2, rfl, nl, rfl⟩
        unfold Builtin.«set.__init__» noKeywords Builtin.Frozenset.updateFrom
        generalize hPI : pyIter = PI
        wp_walk
        subst hPI
        refine wpAny_pyIter_list hl2 ?_
        refine wpAny_bind (wpAny_runValue ?_)
        have lt : l < s.heap.objs.size := Heap.lt_size hol
        have sz : (s.heap.push (o0 w)).objs.size = s.heap.objs.size + 1 := Heap.size_push ..
        have ne : l ≠ (s.heap.push (o0 w)).objs.size := by
          rw [sz]
          exact Nat.ne_of_lt (Nat.lt_succ_of_lt lt)
        have nf : s.heap.objs.size ∉ [(s.heap.push (o0 w)).objs.size, l] := by
          rw [sz]
          simp only [List.mem_cons, List.not_mem_nil, or_false, not_or]
          exact ⟨Nat.ne_of_lt (Nat.lt_succ_self _), Nat.ne_of_gt lt⟩
        have val : ∀ (i : Nat) (v : Value), its[i]? = some v → ∃ k t, ns[i]? = some k ∧ v = .int k t := fun i v hv => by
          have hin : i < ns.length := hz ▸ (Array.getElem?_eq_some_iff.mp hv).1
          obtain ⟨t, e⟩ := PyProof.Rows.IntsAre.int_at hi i v (by rw [Array.getElem?_toList]; exact hv)
          exact ⟨ns[i], t, List.getElem?_eq_getElem hin, by rw [e, List.getD_eq_getElem?_getD, List.getElem?_eq_getElem hin]; rfl⟩
        have h3 : A.in1.in1.in1.handled = none := by simp [hh]
        refine set_update_ints ((Walks.list h3 _ l ne its).toS) s.heap.objs.size nf ns hz hb val (its.size - 0) 0 _ (by omega) (Nat.zero_le _) ⟨⟨_, Heap.get?_push_size _ rfl, rfl, rfl⟩, (hl2.push _)⟩ ⟨0, Nat.le_refl 0, ?_⟩ ?_
        · exact setR_new_at (Heap.get?_push_of_some _ hS)
        · intro s' n' hm hn hR
          obtain ⟨hp, g2, d2, t2, os2⟩ := s'
          have eg : g2 = s.gens := hm.gens
          have ed : d2 = s.drawn := hm.drawn
          have eo : os2 = s.os := hm.os
          subst eg
          subst ed
          subst eo
          show wpAny _ _ _ _ _ _
          refine wpAny_pure ?_
          show wpAny _ _ (ret Value.none) _ _ _
          rw [hz] at hn
          refine wpAny_pure ⟨rfl, hp, t2, n', rfl, hR, hn, fun b o e => ?_⟩
          have b0 : b < s.heap.objs.size := Heap.lt_size e
          refine hm.heap b o ?_ (Heap.get?_push_of_some _ (Heap.get?_push_of_some _ e))
          simp only [List.mem_cons, List.not_mem_nil, or_false, not_or]
          rw [sz]
          exact ⟨Nat.ne_of_lt b0, Nat.ne_of_lt (Nat.lt_succ_of_lt b0)⟩
      · cases r2 with
        | error e => exact hr2
        | ok f2 =>
          cases f2 with
          | next => exact hr2.elim
          | brk => exact hr2.elim
          | cont => exact hr2.elim
          | ret u2 =>
            obtain ⟨rfl, he⟩ := hr2
            repeat (any_goals (first | assumption | wp_step))
            exact q _ he
end
section
variable {X : Cx} {G : Gx} {e : Expr} {pos p1 p2 q2 : Pos} {cs cs1 : List Cell}
def rSetI (K : PySem.W.Frag) (w : World) : List V → Hp → VK → Prop := fun vs H Q => ∃ (l : Addr) (ns : List Int), vs = [V.ref l] ∧ SqL K H l (ns.map V.int) ∧ ns.length < 64 ∧ ∀ p n, n ≤ ns.length → H p = none → Q (.ref p) (upd H p (SetO w p (fun j => decide (j ∈ ns)) n))
theorem cr_setI (hc : X.calm = true) : CallR X (.type "set") (rSetI X.K X.w) := by
  intro pins s σ H vs us Q I r h
  obtain ⟨l, ns, rfl, hq, hz, q⟩ := h
  rw [Vals.ref1 r]
  obtain ⟨its, rv, pl, _⟩ := I.list hq
  have hi : IntsAre its.toArray.toList ns := ints_of_vals rv
  refine set_of_list ns (I.ok.hd hc) pl.isList hi (by unfold scanBound; omega) fun s2 he => ?_
  obtain ⟨h2, tk, n, rfl, R, hn, k⟩ := he
  exact ⟨.ref s.heap.objs.size, _, I.laid (t' := tk) k (Nat.le_refl _) (setO_new R), rfl, q _ n hn (I.hok.fresh (Nat.le_refl _))⟩
theorem isAll_ints {F : Hp} : ∀ {ns : List Int} {vs : List V}, IsAll G F (ns.map .int) vs → vs = ns.map V.int
  | [], _, h => h
  | n :: ns, _, h => by
    obtain ⟨v, r, rfl, h1, h2⟩ := h
    cases h1
    rw [isAll_ints h2]; rfl
theorem ints_isAll {F : Hp} : ∀ (ns : List Int), IsAll G F (ns.map .int) (ns.map V.int)
  | [] => rfl
  | n :: ns => ⟨_, _, rfl, rfl, ints_isAll ns⟩
/-- sorted(set(xs)) -/
theorem evn_sortSet {ns : List Int} (ha : Ev G (rdE X e) cs (.lst (ns.map .int)) cs1) (hz : ns.length < 64) (hc : X.calm = true) (g1 : Gl X "sorted") (m1 : X.mg "sorted" = none) (g2 : Gl X "set") (m2 : X.mg "set" = none) (hs : starEach [e] X.env = (false, eval e X.env) :: starEach [] X.env := by rfl) (hpl : (backTo q2 (starEach [] X.env)).any (·.1) = false := by rfl)
    (hs2 : starEach [.Call (.Name "set" p2) [e] [] q2] X.env = (false, eval (.Call (.Name "set" p2) [e] [] q2) X.env) :: starEach [] X.env := by rfl) (hpl2 : (backTo pos (starEach [] X.env)).any (·.1) = false := by rfl) :
    EvN G (rdE X (.Call (.Name "sorted" p1) [.Call (.Name "set" p2) [e] [] q2] [] pos)) cs ((srt ns).map .int) cs1 := by
  refine evn_of (pe_callB (cr_sortedSet hc) g1 m1 (by decide +kernel) (pa_cons (pe_callTy (cr_setI hc) g2 m2 PyProof.Rows.boot_set (pa_cons pe_rd pa_nil hs) (by decide) (by decide) hs hpl) pa_nil hs2) (by decide) (by decide) hs2 hpl2) ?_
  intro F σ H Q rl q
  refine ha F σ H _ rl fun v F1 H1 st1 r1 q1 => ?_
  obtain ⟨a, vs, rfl, h1, h2⟩ := q1
  have ev := isAll_ints h2
  subst ev
  refine ⟨a, ns, rfl, SqL.of (r1.sub _ _ h1), hz, fun p n hn hp => ?_⟩
  refine ⟨p, _, n, rfl, upd_same, by omega, fun ms p3 hs3 hm hl hp3 => ?_⟩
  have g0 := grow_new (o := SetO X.w p (fun j => decide (j ∈ ns)) n) r1.sub hp
  have e : ms = srt ns := sorted_unique hs3 (srt_sorted ns) fun z => by
    rw [hm z, mem_srt, decide_eq_true_eq]
  subst e
  exact evn_new (st1.trans g0.stp) rl (r1.grow g0) q p3 _ hp3 (ints_isAll _)
end
end Fx

/-! Kinds, counts, objects of the text's own classes. -/
namespace Fx
open PySem L2
/-! ### isinstance -/
def tyN : D → Option String
  | .non => some "NoneType"
  | .bl _ => some "bool"
  | .int _ => some "int"
  | .str _ => some "str"
  | .tup _ => some "tuple"
  | .ptup _ => some "tuple"
  | .lst _ => some "list"
  | .emp => some "dict"
  | _ => none
section
variable {X : Cx} {G : Gx} {a b c e : Expr} {es : List Expr} {pos : Pos} {cs cs1 cs2 cs3 : List Cell} {x y z w d : D} {ds es' xs ys : List D} {k k1 k2 : Bool} {i j : Int} {n : Nat}
theorem tyX_of {F H : Hp} {v : V} {t : String} (sm : Same F H) (h : Is G F d v) (ht : tyN d = some t) : TyX G.K H v (.type t) := by
  cases d with
  | non => cases ht; cases h; exact .base .non
  | bl b => cases ht; cases h; exact .base (.bl b)
  | int i => cases ht; cases h; exact .base (.int i)
  | str s => cases ht; cases h; exact .base (.str s)
  | tup ds =>
    cases ht
    obtain ⟨a, xs, rfl, h1, h2⟩ := h
    rcases h1 with (h1 | ⟨o, h1⟩) | ⟨o, its, n, h1, h2, _⟩
    · exact .base (.tup (sm _ _ h1))
    · exact .fTuple (sm _ _ h1)
    · exact .kTuple h1 h2
  | ptup ds =>
    cases ht
    obtain ⟨a, xs, o, rfl, h1, _⟩ := h
    exact .fTuple (sm _ _ h1)
  | lst ds =>
    cases ht
    obtain ⟨a, xs, rfl, h1, h2⟩ := h
    exact .base (.lst (sm _ _ h1))
  | emp =>
    cases ht
    obtain ⟨a, rfl, h1⟩ := h
    exact .base (.dK (sm _ _ h1))
  | obj c ds => cases ht
  | scr ns => cases ht
  | cls c => cases ht
theorem ev_isi {ip tp : Pos} {T : Str} {T' t : String} (ha : Ev G (rdE X e) cs d cs1) (ht : tyN d = some t) (hk : kitB t T' = some k) (m1 : X.mg "isinstance" = none) (g1 : Gl X "isinstance") (m2 : X.mg T = none) (g2 : Gl X T) (hv : bootBuiltins T = some (.type T')) (hK : G.K = X.K := by rfl) (hn : T ≠ "__name__" := by decide) (hd : (T == ("__debug__" : Str)) = false := by decide)
    (hs : starEach [e, .Name T tp] X.env = (false, eval e X.env) :: starEach [.Name T tp] X.env := by rfl) (hs2 : starEach [.Name T tp] X.env = (false, eval (.Name T tp) X.env) :: starEach [] X.env := by rfl) (hpl : (backTo pos (starEach [.Name T tp] X.env)).any (·.1) = false := by rfl) :
    Ev G (rdE X (.Call (.Name "isinstance" ip) [e, .Name T tp] [] pos)) cs (.bl k) cs1 :=
  ev_of (pe_callB call_isi g1 m1 (by decide +kernel) (pa_cons pe_rd (pa_cons (pe_bltn (v := .ty T') g2 m2 hv rfl hn hd) pa_nil hs2) hs) (by decide) (by decide) hs hpl) fun F σ H Q rl q => ha F σ H _ rl fun v F1 H1 st1 r1 q1 => by
    have ty := tyX_of r1.sub q1 ht
    rw [hK] at ty
    exact ⟨v, .ty T', _, _, k, rfl, .ty T', ty, kit_ty hk, q _ F1 H1 st1 r1 rfl⟩
/-- isinstance(x, C), C a class of the text, x an instance of it -/
theorem ev_isC {ip tp : Pos} {T : Str} {c : Nat} (ha : Ev G (rdE X e) cs (.obj c ds) cs1) (hC : ∀ a dx fs, TyOf X.K (fun b => if b = a then some (.ins (G.cls c) dx fs) else none) (.ref a) (.ref (G.cls c))) (hk : PySem.W.kitOne X.K (.ref (G.cls c)) (.ref (G.cls c)) = some true) (m1 : X.mg "isinstance" = none) (g1 : Gl X "isinstance") (m2 : X.mg T = some (.ref (G.cls c))) (g2 : Gl X T) (hd : (T == ("__debug__" : Str)) = false := by decide)
    (hs : starEach [e, .Name T tp] X.env = (false, eval e X.env) :: starEach [.Name T tp] X.env := by rfl) (hs2 : starEach [.Name T tp] X.env = (false, eval (.Name T tp) X.env) :: starEach [] X.env := by rfl) (hpl : (backTo pos (starEach [.Name T tp] X.env)).any (·.1) = false := by rfl) :
    Ev G (rdE X (.Call (.Name "isinstance" ip) [e, .Name T tp] [] pos)) cs (.bl true) cs1 :=
  ev_of (pe_callB call_isi g1 m1 (by decide +kernel) (pa_cons pe_rd (pa_cons (pe_glob (v := .ref (G.cls c)) g2 m2 rfl hd) pa_nil hs2) hs) (by decide) (by decide) hs hpl) fun F σ H Q rl q => ha F σ H _ rl fun v F1 H1 st1 r1 q1 => by
    obtain ⟨a, dx, fs, rfl, h1, _⟩ := q1
    refine ⟨.ref a, .ref (G.cls c), _, _, true, rfl, .own _, .base ?_, hk, q _ F1 H1 st1 r1 rfl⟩
    have z := hC a dx fs
    cases z with
    | ins e cl ha hn htk hm =>
      exact .ins (r1.sub _ _ h1) cl ha hn htk hm

/-! ### xs.count(y) -/
theorem toPys_countP (x : D) : ∀ ds : List D, (toPys ds).countP (fun z => PyData.eqv z (toPy x)) = ds.countP fun z => eqD z x
  | [] => rfl
  | d :: ds => by
    show (toPy d :: toPys ds).countP _ = _
    rw [List.countP_cons, List.countP_cons, toPys_countP x ds]
    rfl
theorem countP_map {α β : Type} (f : α → β) (p : β → Bool) : ∀ l : List α, (l.map f).countP p = l.countP fun a => p (f a)
  | [] => rfl
  | a :: l => by rw [List.map_cons, List.countP_cons, List.countP_cons, countP_map f p l]
def rCntL (K : PySem.W.Frag) : V → List V → Hp → VK → Prop := fun x xs H Q => ∃ (y : V) (d : PyData) (ds : List PyData), xs = [y] ∧ Dp K H x (.list ds) ∧ Dp K H y d ∧ SeqAt.shaped (.list ds) = true ∧ SeqAt.shaped d = true ∧ Q (.int (ds.countP fun z => PyData.eqv z d : Nat)) H
theorem mt_cntL (hu : X.A.units + 65 < cLine) : MtR X "list.count" (rCntL X.K) := by
  intro pins s σ H x xs v us Q I rx rxs h
  obtain ⟨y, d, ds, rfl, hl, hy, sl, sd, q⟩ := h
  obtain ⟨uy, rfl, ry⟩ := rxs.one
  obtain ⟨bs, r1⟩ := Dp.reads I d y uy hy ry
  have lay : PyData.canLayAll0 ds = true := SeqAt.canLay_of_shaped sl
  cases hl with
  | lst hs ha =>
    rename_i a ws
    cases rx
    obtain ⟨its, rv, ⟨⟨cl, dd, dt, st⟩, n, ho, hc, hdn, hdt⟩, _⟩ := I.list hs
    simp only at hc hdt
    subst hc hdt
    obtain ⟨as, h4⟩ := Dp.readsAll I ds _ its ha rv
    have hm : its.map (SeqAt.readOf s.heap) = ds := SeqAt.readsAll_map ds its as lay h4
    refine call_meets PySem.F.slot_list_count ⟨_, ho, rfl⟩ PySem.F.entry_list_count (PySem.F.args_list_count_2 _ _) (SeqAt.list_countAt a its.toArray n dd st uy fun u => PyData.eqv (SeqAt.readOf s.heap u) d) ⟨ho, SeqAt.items_eqAt (vs := its.toArray) (show ReadsAll s.heap its.toArray.toList ds as from h4) r1 lay (SeqAt.canLay_of_shaped sd) (PyProof.Rows.room_in_shaped sd hu), ?_⟩
    refine ⟨.int (ds.countP fun z => PyData.eqv z d : Nat), H, I.tok _, ⟨s.toks, ?_⟩, q⟩
    have e : its.toArray.toList.countP (fun u => PyData.eqv (SeqAt.readOf s.heap u) d) = ds.countP fun z => PyData.eqv z d := by rw [← hm, countP_map]
    rw [← e]
/-- a tuple without a dict -/
def Tp (H : Hp) (x : V) (ws : List V) : Prop := ∃ a o, x = .ref a ∧ H a = some (.frz o (.tup ws)) ∧ o.dict = none
def tTM (r : V → List V → Hp → VK → Prop) (to : TE) (t : TA) : TE := fun σ H Q => to σ H fun x H1 => (∃ ws, Tp H1 x ws) ∧ t σ H1 fun xs H2 => r x xs H2 Q
theorem pe_tm {o : Expr} {to : TE} {t : TA} {name : Str} {apos cpos : Pos} {id : String} {r : V → List V → Hp → VK → Prop} (pa : PlainAttrs "tuple") (slot : Slot "tuple" name id) (hty : typeOf (.builtin id) = pure (.type "method_descriptor")) (hm : MtR X id r) (ho : PE X o to) (ha : PA X (e :: es) t)
    (hbase : attributeBase o name X.env (eval o X.env) = eval o X.env := by rfl)
    (hfew : ((backTo cpos (starEach (e :: es) X.env)).all (fun x => !x.1) && (backToKw cpos (keywordEach [] X.env)).all (fun x => x.1.isSome) && decide ((e :: es).length + ([] : List Keyword).length + (if ([] : List Keyword).isEmpty then 0 else 1) < 30)) = true := by rfl)
    (hline : (apos.endLine == cpos.line) = true := by rfl) (hs : starEach (e :: es) X.env = (false, eval e X.env) :: starEach es X.env := by rfl) (hplain : (backTo cpos (starEach es X.env)).any (·.1) = false := by rfl) : PE X (.Call (.Attribute o name apos) (e :: es) [] cpos) (tTM r to t) := by
  refine ⟨fun pins s σ H Q I h => ?_⟩
  refine wpAny_Call_method_late hbase hfew hline rfl (thn (ho.run pins s σ H _ I h) fun v s1 ⟨x, H1, I1, r1, ⟨ws, p, ob, ex, hp, hd⟩, q1⟩ => ?_)
  subst ex
  obtain rfl : v = Value.ref p := r1
  obtain ⟨h1, _, its, _, o2, h2, h3, h4⟩ := (show ObjOk X.prog X.w H1 s1.heap p (.frz ob (.tup ws)) from I1.hok p _ hp)
  rw [h1] at h2
  cases h2
  refine ⟨"tuple", id, pa, slot, hty, ⟨ob, h1, h3⟩, fun a ea => by cases ea; exact ⟨ob, h1, hd⟩, ?_⟩
  have hA := ha.run cpos pins s1 σ H1 _ I1 q1
  rw [hs] at hA ⊢
  refine Calls.callWith_builtin (by show (false || (backTo cpos (starEach es X.env)).any (·.1)) = false; rw [hplain] <;> rfl) (Calls.evalArgs_plain ?_)
  exact thn hA fun us s2 ⟨vs, H2, I2, r2, q2⟩ => hm pins s2 σ H2 (.ref p) vs _ us Q I2 rfl r2 q2
def rCntT (K : PySem.W.Frag) : V → List V → Hp → VK → Prop := fun x xs H Q => ∃ (y : V) (d : PyData) (ds : List PyData), xs = [y] ∧ Dp K H x (.tuple ds) ∧ Dp K H y d ∧ SeqAt.shaped (.tuple ds) = true ∧ SeqAt.shaped d = true ∧ Q (.int (ds.countP fun z => PyData.eqv z d : Nat)) H
theorem mt_cntT (hu : X.A.units + 65 < cLine) : MtR X "tuple.count" (rCntT X.K) := by
  intro pins s σ H x xs v us Q I rx rxs h
  obtain ⟨y, d, ds, rfl, hl, hy, sl, sd, q⟩ := h
  obtain ⟨uy, rfl, ry⟩ := rxs.one
  obtain ⟨bs, r1⟩ := Dp.reads I d y uy hy ry
  have lay : PyData.canLayAll0 ds = true := SeqAt.canLay_of_shaped sl
  cases hl with
  | tup hs ha =>
    rename_i a ws
    cases rx
    obtain ⟨its, rv, ⟨⟨cl, dd, dt, st⟩, ho, hc, n, hdt⟩, _⟩ := I.tuple hs
    simp only at hc hdt
    subst hc hdt
    obtain ⟨as, h4⟩ := Dp.readsAll I ds _ its ha rv
    have hm : its.map (SeqAt.readOf s.heap) = ds := SeqAt.readsAll_map ds its as lay h4
    refine call_meets PySem.F.slot_tuple_count ⟨_, ho, rfl⟩ PySem.F.entry_tuple_count (PySem.F.args_tuple_count_2 _ _) (SeqAt.tuple_countAt a its.toArray n dd st uy fun u => PyData.eqv (SeqAt.readOf s.heap u) d) ⟨ho, SeqAt.items_eqAt (vs := its.toArray) (show ReadsAll s.heap its.toArray.toList ds as from h4) r1 lay (SeqAt.canLay_of_shaped sd) (PyProof.Rows.room_in_shaped sd hu), ?_⟩
    refine ⟨.int (ds.countP fun z => PyData.eqv z d : Nat), H, I.tok _, ⟨s.toks, ?_⟩, q⟩
    have e : its.toArray.toList.countP (fun u => PyData.eqv (SeqAt.readOf s.heap u) d) = ds.countP fun z => PyData.eqv z d := by rw [← hm, countP_map]
    rw [← e]
theorem ev_cntL {o : Expr} {ap : Pos} (ho : Ev G (rdE X o) cs (.lst xs) cs1) (he : Ev G (rdE X e) cs1 d cs2) (hu : X.A.units + 65 < cLine) (fx : fine (.lst xs)) (fd : fine d) (hpe : ∀ {to : TE} {t : TA}, PE X o to → PA X [e] t → PE X (.Call (.Attribute o "count" ap) [e] [] pos) (tBM X.K "list" (rCntL X.K) to t)) (hK : G.K = X.K := by rfl) (hs : starEach [e] X.env = (false, eval e X.env) :: starEach [] X.env := by rfl) :
    Ev G (rdE X (.Call (.Attribute o "count" ap) [e] [] pos)) cs (.int (xs.countP fun z => eqD z d : Nat)) cs2 :=
  ev_of (hpe pe_rd (pa_cons pe_rd pa_nil hs)) fun F σ H Q rl q => ho F σ H _ rl fun v F1 H1 st1 r1 q1 => by
    have q1' := q1
    obtain ⟨a, vs, rfl, h1, h2⟩ := q1
    refine ⟨.inl ⟨rfl, vs, SqL.of (r1.sub _ _ h1)⟩, he F1 σ H1 _ r1 fun w F2 H2 st2 r2 q2 => ?_⟩
    have d1 := dp_of r2.sub _ _ (Is.mono st2.fsub _ q1') fx.1
    have d2 := dp_of r2.sub _ _ q2 fd.1
    rw [hK] at d1 d2
    refine ⟨w, toPy d, toPys xs, rfl, d1, d2, fx.shaped, fd.shaped, ?_⟩
    rw [toPys_countP]
    exact q _ F2 H2 (st1.trans st2) r2 rfl
theorem ev_cntT {o : Expr} {ap : Pos} (ho : Ev G (rdE X o) cs (.ptup xs) cs1) (he : Ev G (rdE X e) cs1 d cs2) (hu : X.A.units + 65 < cLine) (fx : fine (.tup xs)) (fd : fine d) (hpe : ∀ {to : TE} {t : TA}, PE X o to → PA X [e] t → PE X (.Call (.Attribute o "count" ap) [e] [] pos) (tTM (rCntT X.K) to t)) (hK : G.K = X.K := by rfl) (hs : starEach [e] X.env = (false, eval e X.env) :: starEach [] X.env := by rfl) :
    Ev G (rdE X (.Call (.Attribute o "count" ap) [e] [] pos)) cs (.int (xs.countP fun z => eqD z d : Nat)) cs2 :=
  ev_of (hpe pe_rd (pa_cons pe_rd pa_nil hs)) fun F σ H Q rl q => ho F σ H _ rl fun v F1 H1 st1 r1 q1 => by
    have q1' := q1
    obtain ⟨a, vs, ob, rfl, h1, h2, h3⟩ := q1
    refine ⟨⟨vs, a, ob, rfl, r1.sub _ _ h1, h2⟩, he F1 σ H1 _ r1 fun w F2 H2 st2 r2 q2 => ?_⟩
    have d1 := dp_of r2.sub (.ptup xs) _ (Is.mono st2.fsub _ q1') fx.1
    have d2 := dp_of r2.sub _ _ q2 fd.1
    rw [hK] at d1 d2
    refine ⟨w, toPy d, toPys xs, rfl, d1, d2, fx.shaped, fd.shaped, ?_⟩
    rw [toPys_countP]
    exact q _ F2 H2 (st1.trans st2) r2 rfl
theorem ev_ptup {te : TE} (h : Ev G te cs (.ptup xs) cs1) : Ev G te cs (.tup xs) cs1 := fun F σ H Q rl q => h F σ H Q rl fun v F1 H1 st1 r1 q1 => by
  obtain ⟨a, vs, ob, rfl, h1, h2, h3⟩ := q1
  exact q _ F1 H1 st1 r1 ⟨a, vs, rfl, .inl (.inr ⟨ob, h1⟩), h3⟩

/-! ### fields, properties, methods -/
theorem lookup_at : ∀ {fs : List (Str × V)} {ns : List Str} {ds : List D} {F : Hp} {f : Str} {j : Nat} {d : D}, fs.map (·.1) = ns → IsAll G F ds (fs.map (·.2)) → ns.findIdx? (· == f) = some j → ds[j]? = some d → ∃ v, fs.lookup f = some v ∧ Is G F d v
  | [], _, _, _, _, _, _, h, _, hj, _ => by subst h; cases hj
  | (n, v) :: fs, _, [], _, _, _, _, h, ha, _, _ => by
    exfalso
    cases ha
  | (n, v) :: fs, _, d0 :: ds, F, f, j, d, h, ha, hj, hd => by
    subst h
    obtain ⟨v', r, e, h1, h2⟩ := ha
    cases e
    rw [List.map_cons, List.findIdx?_cons] at hj
    by_cases q : (n == f) = true
    · rw [if_pos q] at hj
      cases hj
      cases hd
      have : n = f := by simpa using q
      subst this
      exact ⟨v, by simp [List.lookup], h1⟩
    · rw [if_neg q] at hj
      cases hk : (fs.map (·.1)).findIdx? (· == f) with
      | none => rw [hk] at hj; cases hj
      | some j' =>
        rw [hk] at hj
        cases hj
        obtain ⟨w, e1, q1⟩ := lookup_at (fs := fs) (ds := ds) (F := F) (f := f) (j := j') (d := d) rfl h2 hk (by simpa using hd)
        refine ⟨w, ?_, q1⟩
        have q' : (f == n) = false := by
          rw [beq_eq_false_iff_ne]
          intro z
          subst z
          simp at q
        rw [List.lookup_cons, q']
        exact e1
theorem lookup_out : ∀ {fs : List (Str × V)} {ns : List Str} {m : Str}, fs.map (·.1) = ns → ns.contains m = false → fs.lookup m = none
  | [], _, _, _, _ => rfl
  | (n, v) :: fs, _, m, h, hc => by
    subst h
    rw [List.map_cons, List.contains_cons, Bool.or_eq_false_iff] at hc
    rw [List.lookup_cons, hc.1]
    exact lookup_out rfl hc.2
/-- e.f, a field -/
theorem ev_fld {f : Str} {c : Nat} {m : Nat} (he : Ev G (rdE X e) cs (.obj c ds) cs1) (hj : (G.fld c).findIdx? (· == f) = some m) (hd : ds[m]? = some z) (cl : Cls X.K (G.cls c)) (na : NoAttr X.K (G.cls c) f) (hb : attributeBase e f X.env (eval e X.env) = eval e X.env := by rfl) : Ev G (rdE X (.Attribute e f pos)) cs z cs1 :=
  ev_of (pe_fld pe_rd hb) fun F σ H Q rl q => he F σ H _ rl fun v F1 H1 st1 r1 q1 => by
    obtain ⟨a, dx, fs, rfl, h1, h2, h3⟩ := q1
    obtain ⟨u, e1, q2⟩ := lookup_at h2 h3 hj hd
    exact ⟨a, _, dx, fs, u, rfl, r1.sub _ _ h1, cl, na, e1, q _ F1 H1 st1 r1 q2⟩
/-- e.f, a property that hands back a field g -/
theorem ev_prop {f g : Str} {c m kk jj : Nat} {pa ga : Addr} {fd : FuncData} (he : Ev G (rdE X e) cs (.obj c ds) cs1) (hj : (G.fld c).findIdx? (· == g) = some m) (hd : ds[m]? = some z) (cl : Cls X.K (G.cls c)) (hp : PropOf X.K (G.cls c) f pa ga)
    (Fn : FnOk X.prog X.w X.K X.mg X.base CX0 kk ga fd ["self"] (getSp (G.cls c) g)) (hb : Binds X.K fd ["self"] []) (hr : Room jj X.A) (hk : kk + 1 ≤ jj) (hx : Passes CX0 X.nox E0 := by exact pass0) (hab : attributeBase e f X.env (eval e X.env) = eval e X.env := by rfl) : Ev G (rdE X (.Attribute e f pos)) cs z cs1 :=
  ev_of (pe_prop pe_rd cl hp Fn (hr.mono hk) hb .nil hx hab) fun F σ H Q rl q => he F σ H _ rl fun v F1 H1 st1 r1 q1 => by
    obtain ⟨a, dx, fs, rfl, h1, h2, h3⟩ := q1
    obtain ⟨u, e1, q2⟩ := lookup_at h2 h3 hj hd
    exact ⟨a, dx, fs, rfl, r1.sub _ _ h1, a, dx, fs, u, rfl, r1.sub _ _ h1, e1, q _ F1 H1 st1 r1 q2⟩
/-- o.m(e, ..) -/
theorem ev_meth {o : Expr} {m : Str} {c kk jj : Nat} {f : Addr} {ap : Pos} {C : List D → Out → Prop} {pl : Sem Bool} (ho : Ev G (rdE X o) cs (.obj c ds) cs1) (cl : Cls X.K (G.cls c)) (hm : Meth X.K (G.cls c) m f) (hl : (G.fld c).contains m = false) (Fn : FnR X.prog X.w X.K X.mg X.base CX0 kk f (sp0 G C)) (hr : Room jj X.A) (hk : kk ≤ jj) (ha : EvV G (rdA X (e :: es)) cs1 es' cs2) (hC : C (.obj c ds :: es') (.val z))
    (hst : starEach (e :: es) X.env = (false, eval e X.env) :: starEach es X.env := by rfl) (hpl : (backTo pos (starEach es X.env)).any (·.1) = false := by rfl)
    (ht : eval (.Call (.Attribute o m ap) (e :: es) [] pos) X.env = (do
      let ov ← eval o X.env
      standAt ap.atName
      let (f, first) ← holding [ov] (getMethod ov m pl)
      callWith pos f first (backTo pos (starEach (e :: es) X.env)) (backToKw pos (keywordEach [] X.env))) := by rfl) : Ev G (rdE X (.Call (.Attribute o m ap) (e :: es) [] pos)) cs z cs2 :=
  ev_of (pe_methR (E := E0) pe_rd cl hm Fn (hr.mono hk) pass0 pa_rd hst hpl ht) fun F σ H Q rl q => ho F σ H _ rl fun v F1 H1 st1 r1 q1 => by
    have q1' := q1
    obtain ⟨a, dx, fs, rfl, h1, h2, h3⟩ := q1
    refine ⟨a, dx, fs, rfl, r1.sub _ _ h1, lookup_out h2 hl, ha F1 σ H1 _ r1 fun vs F2 H2 st2 r2 q2 => ?_⟩
    exact ⟨F2, .obj c ds :: es', .val z, r2.sub, ⟨_, vs, rfl, Is.mono st2.fsub _ q1', q2⟩, hC, fun v F3 H3 g q3 => q v F3 H3 ((st1.trans st2).trans g.stp) (r2.grow g) q3⟩
/-- o.m() -/
theorem ev_meth0 {o : Expr} {m : Str} {c kk jj : Nat} {f : Addr} {ap : Pos} {C : List D → Out → Prop} {fd : FuncData} {ps : List Str} {pl : Sem Bool} (ho : Ev G (rdE X o) cs (.obj c ds) cs1) (cl : Cls X.K (G.cls c)) (hm : Meth X.K (G.cls c) m f) (hl : (G.fld c).contains m = false) (Fn : FnOk X.prog X.w X.K X.mg X.base CX0 kk f fd ps (sp0 G C)) (hb : Binds X.K fd ps []) (hr : Room jj X.A) (hk : kk ≤ jj) (hC : C [.obj c ds] (.val z))
    (ht : eval (.Call (.Attribute o m ap) [] [] pos) X.env = (do
      let ov ← eval o X.env
      standAt ap.atName
      let (f, first) ← holding [ov] (getMethod ov m pl)
      callWith pos f first (backTo pos (starEach [] X.env)) (backToKw pos (keywordEach [] X.env))) := by rfl) : Ev G (rdE X (.Call (.Attribute o m ap) [] [] pos)) cs z cs1 :=
  ev_of (pe_meth0 (E := E0) pe_rd cl hm Fn (hr.mono hk) hb .nil pass0 ht) fun F σ H Q rl q => ho F σ H _ rl fun v F1 H1 st1 r1 q1 => by
    have q1' := q1
    obtain ⟨a, dx, fs, rfl, h1, h2, h3⟩ := q1
    refine ⟨a, dx, fs, rfl, r1.sub _ _ h1, lookup_out h2 hl, ?_⟩
    exact ⟨F1, [.obj c ds], .val z, r1.sub, ⟨_, [], rfl, q1', rfl⟩, hC, fun v F3 H3 g q3 => q v F3 H3 (st1.trans g.stp) (r1.grow g) q3⟩
end
end Fx

/-! Instances made; class methods. -/
namespace Fx
open PySem PyProof PyProof.Rows L2
section
variable {CX : CXT} {P : Program} {w : World} {K : PySem.W.Frag} {mg : Str → Option Value} {base : Heap} {k : Nat} {f : Addr} {name qual pv : Str} {params : Arguments} {body : List Stmt} {scope : Scope} {dV kV doc pm cdv ct oc : Value} {an od : Option Addr} {osl : Array (Option Value)} {N ps : List Str} {sp : Sp}
/-- def f(a, .., *v): what is left over is a new tuple, its object known -/
theorem fn_starF (lk : K.lookup f = some ⟨oc, od, .func (PySem.W.fnOf name qual params body scope dV kV doc pm an cdv ct), osl⟩) (hcd : PySem.W.codeIn K cdv qual = true) (S : FnScope N (ps ++ [pv]) scope) (hCX : StX.CXUp CX)
    (hb : ∀ us rest : List Value, us.length = ps.length → bindArgs (PySem.W.fnOf name qual params body scope dV kV doc pm an cdv ct) ⟨us ++ rest, []⟩ = (newTuple rest >>= fun t => pure (ps.zip us ++ [(pv, t)])))
    (hbody : ∀ (A : Around) (outer : List Env) (s : Shared) (H : Hp) (vs : List V) (Q : VK) (E : XK), Room k (A.deeper (envOfC qual scope s.heap.objs.size f cdv)) → sp vs H Q E → ∃ t, PSs (cxOf CX P w K mg base N qual scope f cdv A outer s H E) body t ∧ t { nx := fun _ H' => Q .non H', rt := Q } (L2.start N vs) H) :
    FnR P w K mg base CX (k + 1) f (fun vs H Q E => ∃ ws rest, vs = ws ++ rest ∧ ws.length = ps.length ∧ rest.length ≤ sizeLine ∧ ∀ (p : Addr) (o : Obj), H p = none → o.dict = none → sp (ws ++ [V.ref p]) (upd H p (.frz o (.tup rest))) Q E) := by
  intro A outer s H us vs Q E hr e0 r ⟨ws, rest, ev, hl, hz, hq⟩
  subst ev
  obtain ⟨u1, u2, eu, r1, r2⟩ := StX.vals_split r
  subst eu
  have l1 : u1.length = ps.length := r1.length.symm.trans hl
  have l2 : u2.length ≤ sizeLine := r2.length ▸ hz
  have hn : H s.heap.objs.size = none := e0.hok.fresh (Nat.le_refl _)
  refine StX.run_bnd lk hcd S hr e0 (G := fun xs H2 => ∃ (p : Addr) (o : Obj), H p = none ∧ o.dict = none ∧ xs = ws ++ [V.ref p] ∧ H2 = upd H p (.frz o (.tup rest))) (fun A' Ex Q' h => ?_) fun s2 H2 xs ⟨p, o, hp, ho, ex, eH⟩ hr' => ?_
  · rw [hb u1 u2 l1]
    refine wpAny_bind (wpAny_newTuple (wpAny_pure ?_) l2)
    generalize hob : ({ cls := .type "tuple", data := .seq u2.toArray } : Obj) = ob
    have g1 : (s.heap.push ob).get? s.heap.objs.size = some ob := Heap.get?_push_size _ (by rw [← hob]; rfl)
    have new : ObjOk P w (upd H s.heap.objs.size (.frz ob (.tup rest))) (s.heap.push ob) s.heap.objs.size (.frz ob (.tup rest)) := ⟨g1, hz, u2, r2, ob, g1, by rw [← hob], 0, by rw [← hob]⟩
    have un : Un (frs outer) [] H (upd H s.heap.objs.size (.frz ob (.tup rest))) s.heap (s.heap.push ob) := StX.un_laid hn
    have z := h _ _ (ws ++ [V.ref s.heap.objs.size]) (u1 ++ [Value.ref s.heap.objs.size]) (StX.env0_laid e0 new) un rfl (fun e s' => hCX outer s H _ _ E e s' un (fun b o q => Heap.get?_push_of_some _ q) rfl) (r1.append (.cons rfl .nil)) (by rw [List.length_append, List.length_append, hl]; rfl) ⟨_, ob, hn, by rw [← hob], rfl, rfl⟩
    rwa [List.zip_append l1.symm] at z
  · subst ex eH
    exact hbody A outer s2 _ _ Q E hr' (hq p o hp ho)
end
/-- __init__(self, width, *rest): the fields that it leaves -/
def spI (G : Gx) (c : Nat) (C : List D → List D → Prop) : Sp := fun vs H Q _ => ∃ F x dx us ds fs, Same F H ∧ vs = .ref x :: us ∧ H x = some (.ins (G.cls c) dx []) ∧ F x = none ∧ IsAll G F ds us ∧ us.length ≤ 100000 ∧ C ds fs ∧
  ∀ F' H', Stp F H (· = x) F' H' (fun _ => False) → Same F' H' → Is G F' (.obj c fs) (.ref x) → Q .non H'
section
variable {P : Program} {w : World} {G : Gx} {mg : Str → Option Value} {base : Heap} {x qual pv : Str} {st : Stmt} {f : Addr} {fd : FuncData} {N : List Str} {k : Nat}
theorem fnI {c : Nat} {C : List D → List D → Prop} {self width : Str} (F : L2.Fun G.K x qual st f fd) (S : FnScope N ([self, width] ++ [pv]) (defScope st))
    (hb : ∀ (kV doc pm : Value) (an : Option Addr) (cdv ct a b : Value) (rest : List Value), bindArgs (PySem.W.fnOf x qual (defArgs st) (defBody st) (defScope st) .none kV doc pm an cdv ct) ⟨a :: b :: rest, []⟩ = (newTuple rest >>= fun t => pure [(self, a), (width, b), (pv, t)]))
    (hN : 3 ≤ N.length) (hC : ∀ ds fs, C ds fs → 0 < ds.length ∧ fs.length = (G.fld c).length)
    (body : ∀ cdv A outer s H E, Room k (cx0 P w G.K mg base N qual st f cdv A outer s H E).A → ∀ l d rs fs, C (d :: rs) fs → Sx G (rdSs (cx0 P w G.K mg base N qual st f cdv A outer s H E) (defBody st)) (.ins l c [] :: .val d :: .val (.ptup rs) :: nos (N.length - 3)) { nx := fun cs => cs[0]? = some (.ins l c fs) }) :
    FnR P w G.K mg base CX0 (k + 1) f (spI G c C) := by
  obtain ⟨oc, od, kV, doc, pm, an, cdv, ct, osl, rfl, lk, hcd⟩ := F.ex
  let sp : Sp := fun vs H Q _ => ∃ F l dx p d rs fs v, Same F H ∧ vs = [.ref l, v, .ref p] ∧ H l = some (.ins (G.cls c) dx []) ∧ F l = none ∧ Is G F d v ∧ Is G F (.ptup rs) (.ref p) ∧ C (d :: rs) fs ∧
    ∀ F' H', Stp F H (· = l) F' H' (fun _ => False) → Same F' H' → Is G F' (.obj c fs) (.ref l) → Q .non H'
  have K1 := fn_starF (P := P) (w := w) (mg := mg) (base := base) (CX := CX0) (k := k) (sp := sp) lk hcd S StX.cxUp_none (fun us rest hl => by
    match us, hl with
    | [a, b], _ => exact hb kV doc pm an cdv ct a b rest) (fun A outer s H vs Q E hr hsp => by
    obtain ⟨F0, l, dx, p, d, rs, fs, v, sm, rfl, h1, h2, hd, hp, hc, ret⟩ := hsp
    refine ⟨_, PSs.nox pss_rd, ?_⟩
    have r0 : Rel G F0 (L2.start N [.ref l, v, .ref p]) H (.ins l c [] :: .val d :: .val (.ptup rs) :: nos (N.length - 3)) := by
      have e : L2.start N [.ref l, v, .ref p] = some (.ref l) :: some v :: some (.ref p) :: List.replicate (N.length - 3) none := rfl
      rw [e]
      refine ⟨sm, by unfold nos; simp, fun i cc q => ?_, fun l' i j c1 c2 q1 q2 e1 e2 => ?_⟩
      · match i, q with
        | 0, q =>
          cases q
          exact ⟨_, rfl, l, _, rfl, rfl, h1, h2, dx, [], rfl, rfl, rfl⟩
        | 1, q =>
          cases q
          exact ⟨_, rfl, v, rfl, hd⟩
        | 2, q =>
          cases q
          exact ⟨_, rfl, _, rfl, hp⟩
        | i + 3, q =>
          have q' : (nos (N.length - 3))[i]? = some cc := q
          unfold nos at q'
          rw [List.getElem?_replicate] at q'
          split at q'
          · rename_i hlt
            cases q'
            exact ⟨none, by show (List.replicate (N.length - 3) none)[i]? = _; rw [List.getElem?_replicate, if_pos hlt], trivial⟩
          · cases q'
      · have one : ∀ {i : Nat} {c1 : Cell}, (Cell.ins l c [] :: .val d :: .val (.ptup rs) :: nos (N.length - 3))[i]? = some c1 → Has c1 l' → i = 0 := fun {i c1} q e => by
          match i, q with
          | 0, _ => rfl
          | 1, q => cases q; cases e
          | 2, q => cases q; cases e
          | i + 3, q =>
            have q' : (nos (N.length - 3))[i]? = some c1 := q
            unfold nos at q'
            rw [List.getElem?_replicate] at q'
            split at q'
            · cases q'; cases e
            · cases q'
        rw [one q1 e1, one q2 e2]
    have own0 : ∀ a, Owns (.ins l c [] :: .val d :: .val (.ptup rs) :: nos (N.length - 3)) a → a = l := fun a ⟨i, c1, q, e⟩ => by
      match i, q with
      | 0, q => cases q; cases e; rfl
      | 1, q => cases q; cases e
      | 2, q => cases q; cases e
      | i + 3, q =>
        have q' : (nos (N.length - 3))[i]? = some c1 := q
        unfold nos at q'
        rw [List.getElem?_replicate] at q'
        split at q'
        · cases q'; cases e
        · cases q'
    refine body cdv A outer s H E hr l d rs fs hc F0 _ H _ r0 ?_ (fun _ _ _ _ _ _ hp => hp.elim) (fun _ _ _ _ _ _ _ hp => hp.elim) (fun _ _ _ _ hp => hp.elim) (fun _ _ _ _ hp => hp.elim)
    intro cs' σ' F' H' hp2 st r'
    obtain ⟨u, e1, g1, g2, dx2, fs2, rfl, g3, g4⟩ := r'.owned (l := l) hp2 rfl
    have hfl := (hC _ _ hc).2
    rw [hfl, List.take_length] at g3
    obtain ⟨r2, st2⟩ := r'.know (d := .obj c fs) hp2 rfl g1 ⟨l, dx2, fs2, rfl, upd_same, g3, IsAll.mono (fun a o h => by rw [upd_ne (ne_of_none h g2)]; exact h) fs g4⟩
    have sa := st.trans st2
    refine ret _ H' ⟨sa.fsub, fun a o e n => sa.frame a o e fun z => n (own0 a z), fun a o e => ?_, fun a e => e.elim, sa.back⟩ r2.sub ⟨l, dx2, fs2, rfl, upd_same, g3, IsAll.mono (fun a o h => by rw [upd_ne (ne_of_none h g2)]; exact h) fs g4⟩
    rcases sa.fresh a o e with z | z | z
    · exact .inl z
    · exact .inr (.inl z)
    · exact .inr (.inr (own0 a z)))
  refine K1.imp fun vs H Q E h => ?_
  obtain ⟨F0, l, dx, us, ds, fs, sm, rfl, h1, h2, hall, hz, hc, ret⟩ := h
  cases ds with
  | nil => exact absurd (hC _ _ hc).1 (by simp)
  | cons d rs =>
    obtain ⟨v, vr, rfl, hd, hr⟩ := hall
    refine ⟨[.ref l, v], vr, rfl, rfl, Nat.le_trans (by simp at hz; omega) (show 100000 ≤ sizeLine by decide), fun p o hp ho => ?_⟩
    have g := grow_know (o := .frz o (.tup vr)) sm hp
    have lp : l ≠ p := ne_of_none h1 hp
    refine ⟨upd F0 p (.frz o (.tup vr)), l, dx, p, d, rs, fs, v, g.sub, rfl, by rw [upd_ne lp]; exact h1, by rw [upd_ne lp]; exact h2, Is.mono g.fsub d hd, ⟨p, vr, o, rfl, upd_same, ho, IsAll.mono g.fsub rs hr⟩, hc, fun F' H' st sm' hi => ?_⟩
    exact ret F' H' ((g.stp (O := (· = l))).trans st) sm' hi
end

/-! ### C(e, .., *y) -/
section
variable {X : Cx} {G : Gx} {e : Expr} {es : List Expr} {np pos : Pos} {n : Str} {cs cs' cs1 cs2 : List Cell} {d : D} {ds fs : List D} {c j k : Nat}
theorem make_end {F H F1 H1 : Hp} {σ : L2.St} {Q : VK} {f : Addr} {vs : List V} {C : List D → List D → Prop} (st1 : Stp F H (Owns cs) F1 H1 (Owns cs1)) (rl : Rel G F σ H cs) (r1 : Rel G F1 σ H1 cs1) (q1 : IsAll G F1 ds vs) (hz : ds.length ≤ 100000) (hC : C ds fs)
    (q : ∀ v F' H', Stp F H (Owns cs) F' H' (Owns cs1) → Rel G F' σ H' cs1 → Is G F' (.obj c fs) v → Q v H') (x dx : Addr) (hx : H1 x = none) (hdx : H1 dx = none) (hne : dx ≠ x) :
    spI G c C (V.ref x :: vs) (upd (upd H1 dx (.own x)) x (.ins (G.cls c) dx [])) (fun v H2 => v = .non ∧ Q (.ref x) H2) E0 := by
  have g1 := grow_new (o := .own x) r1.sub hdx
  have hx2 : upd H1 dx (.own x) x = none := by rw [upd_ne hne.symm]; exact hx
  have g2 := grow_new (o := .ins (G.cls c) dx []) g1.sub hx2
  have g := g1.trans g2
  have fx : F1 x = none := by
    cases e : F1 x with
    | none => rfl
    | some u => rw [r1.sub x u e] at hx; cases hx
  refine ⟨F1, x, dx, vs, ds, fs, g.sub, rfl, upd_same, fx, q1, by rw [q1.length]; exact hz, hC, fun F' H' st sm hi => ⟨rfl, ?_⟩⟩
  have nox : ¬ Owns cs1 x := r1.notOwns hx
  have sA : Stp F1 H1 (Owns cs1) F' H' (Owns cs1) := by
    refine ⟨st.fsub, fun a o e n => ?_, fun a o e => ?_, fun a e => .inl e, fun a e => g.hsub.free (st.back a e)⟩
    · exact st.frame a o (g.hsub a o e) fun z => by rw [z, hx] at e; cases e
    · rcases st.fresh a o e with z | z | z
      · exact .inl z
      · exact .inr (.inl (g.hsub.free z))
      · exact .inr (.inl (z ▸ hx))
  refine q _ F' H' (st1.trans sA) ⟨sm, r1.len, fun i cc e => ?_, r1.inj⟩ hi
  obtain ⟨o, e1, a1⟩ := r1.cel i cc e
  refine ⟨o, e1, a1.mono st.fsub fun l u hl h1 h2 => ?_⟩
  have nl : ¬ l = x := fun z => nox (z ▸ ⟨i, cc, e, hl⟩)
  have h1' := g.hsub l u h1
  refine ⟨st.frame l u h1' nl, ?_⟩
  cases z : F' l with
  | none => rfl
  | some u' =>
    rcases st.fresh l u' z with y | y | y
    · rw [h2] at y; cases y
    · rw [h1'] at y; cases y
    · exact absurd y nl
/-- C(e, ..), C a class by its name -/
theorem ev_make {C : List D → List D → Prop} {f : Addr} (M : Mk X.K (G.cls c) f) (Fn : FnR X.prog X.w X.K X.mg X.base CX0 k f (spI G c C)) (hr : Room j X.A) (hk : k + 1 ≤ j) (ha : EvV G (rdA X (e :: es)) cs ds cs1) (hz : ds.length ≤ 100000) (hC : C ds fs) (hg : Gl X n) (hm : X.mg n = some (.ref (G.cls c))) (hdb : (n == ("__debug__" : Str)) = false := by decide)
    (he : starEach (e :: es) X.env = (false, eval e X.env) :: starEach es X.env := by rfl) (hpl : (backTo pos (starEach es X.env)).any (·.1) = false := by rfl) : Ev G (rdE X (.Call (.Name n np) (e :: es) [] pos)) cs (.obj c fs) cs1 :=
  ev_of (StX.pe_makeR (E := E0) M Fn (hr.mono hk) hg hm pass0 pa_rd hdb he hpl) fun F σ H Q rl q => ha F σ H _ rl fun vs F1 H1 st1 r1 q1 x dx hx hdx hne => make_end (f := f) st1 rl r1 q1 hz hC q x dx hx hdx hne
theorem pe_makeS {f C : Addr} {sp : Sp} {E : XK} {t : TA} (M : Mk X.K C f) (F : FnR X.prog X.w X.K X.mg X.base CX0 k f sp) (hr : Room (k + 1) X.A) (hg : Gl X n) (hm : X.mg n = some (.ref C)) (hx : Passes CX0 X E) (ha : PA X (e :: es) t) (hdb : (n == ("__debug__" : Str)) = false := by decide)
    (he : starEach (e :: es) X.env = (false, eval e X.env) :: starEach es X.env := by rfl) (hst : (backTo pos (starEach es X.env)).any (·.1) = true := by rfl) : PE X (.Call (.Name n np) (e :: es) [] pos) (StX.tMakeR C sp E t) := by
  refine ⟨fun pins s σ H Q I h => ?_⟩
  refine wpAny_Call_Name_kw (ld_glob I hg hm ?_ hdb)
  exact PySem.W.callWith_S2 (h₀ := X.base) I.ok.mod.kin M.kp (thn (ha.run pos pins s σ H _ I h) fun us s1 ⟨vs, H1, I1, r, q⟩ => ⟨I1.kIn, StX.run_makeR M F hr hx I1 r q⟩) he hst
/-- C(e, .., *y) -/
theorem ev_makeS {C : List D → List D → Prop} {f : Addr} (M : Mk X.K (G.cls c) f) (Fn : FnR X.prog X.w X.K X.mg X.base CX0 k f (spI G c C)) (hr : Room j X.A) (hk : k + 1 ≤ j) (ha : EvV G (rdA X (e :: es)) cs ds cs1) (hz : ds.length ≤ 100000) (hC : C ds fs) (hg : Gl X n) (hm : X.mg n = some (.ref (G.cls c))) (hdb : (n == ("__debug__" : Str)) = false := by decide)
    (he : starEach (e :: es) X.env = (false, eval e X.env) :: starEach es X.env := by rfl) (hst : (backTo pos (starEach es X.env)).any (·.1) = true := by rfl) : Ev G (rdE X (.Call (.Name n np) (e :: es) [] pos)) cs (.obj c fs) cs1 :=
  ev_of (pe_makeS (E := E0) M Fn (hr.mono hk) hg hm pass0 pa_rd hdb he hst) fun F σ H Q rl q => ha F σ H _ rl fun vs F1 H1 st1 r1 q1 x dx hx hdx hne => make_end (f := f) st1 rl r1 q1 hz hC q x dx hx hdx hne
theorem pe_makeLS {f C : Addr} {i : Nat} {sp : Sp} {E : XK} {t : TA} (M : Mk X.K C f) (F : FnR X.prog X.w X.K X.mg X.base CX0 k f sp) (hr : Room (k + 1) X.A) (hN : X.N[i]? = some n) (hv : Vis X.env.scope n) (hx : Passes CX0 X E) (ha : PA X (e :: es) t) (hdb : (n == ("__debug__" : Str)) = false := by decide) (hcd : (n == ("__classdict__" : Str)) = false := by decide)
    (he : starEach (e :: es) X.env = (false, eval e X.env) :: starEach es X.env := by rfl) (hst : (backTo pos (starEach es X.env)).any (·.1) = true := by rfl) : PE X (.Call (.Name n np) (e :: es) [] pos) (fun σ H Q => tVar i σ H fun y H1 => y = .ref C ∧ StX.tMakeR C sp E t σ H1 Q) := by
  refine ⟨fun pins s σ H Q I h => ?_⟩
  refine wpAny_Call_Name_kw (thn ((pe_var (X := X) (i := i) (pos := np) hN hv hdb hcd).run pins s σ H _ I h) fun u s0 ⟨y, H0, I0, ry, ey, hq⟩ => ?_)
  subst ey
  obtain rfl : u = Value.ref C := ry
  exact PySem.W.callWith_S2 (h₀ := X.base) I0.ok.mod.kin M.kp (thn (ha.run pos pins s0 σ H0 _ I0 hq) fun us s1 ⟨vs, H1, I1, r, q⟩ => ⟨I1.kIn, StX.run_makeR M F hr hx I1 r q⟩) he hst
/-- cls(e, .., *y), cls a name that holds the class -/
theorem ev_makeLS {C : List D → List D → Prop} {f : Addr} (i : Nat) (M : Mk X.K (G.cls c) f) (Fn : FnR X.prog X.w X.K X.mg X.base CX0 k f (spI G c C)) (hr : Room j X.A) (hk : k + 1 ≤ j) (hi : cs[i]? = some (.val (.cls c))) (ha : EvV G (rdA X (e :: es)) cs ds cs1) (hz : ds.length ≤ 100000) (hC : C ds fs) (hN : X.N[i]? = some n) (hv : Vis X.env.scope n) (hdb : (n == ("__debug__" : Str)) = false := by decide) (hcd : (n == ("__classdict__" : Str)) = false := by decide)
    (he : starEach (e :: es) X.env = (false, eval e X.env) :: starEach es X.env := by rfl) (hst : (backTo pos (starEach es X.env)).any (·.1) = true := by rfl) : Ev G (rdE X (.Call (.Name n np) (e :: es) [] pos)) cs (.obj c fs) cs1 :=
  ev_of (pe_makeLS (i := i) (E := E0) M Fn (hr.mono hk) hN hv pass0 pa_rd hdb hcd he hst) fun F σ H Q rl q => by
    obtain ⟨v, e1, q0⟩ := rl.val hi
    cases q0
    exact ⟨_, e1, rfl, ha F σ H _ rl fun vs F1 H1 st1 r1 q1 x dx hx hdx hne => make_end (f := f) st1 rl r1 q1 hz hC q x dx hx hdx hne⟩
/-- C.m(e, ..), a class method -/
theorem ev_cmeth {o : Expr} {m : Str} {C : List D → Out → Prop} {pa g : Addr} {mc : Value} {ap : Pos} {pl : Sem Bool} {z : D} (rd : ClX.CRead X.K (G.cls c) mc) (cm : ClX.CMet X.K (G.cls c) mc m pa g) (Fn : FnR X.prog X.w X.K X.mg X.base CX0 k g (sp0 G C)) (hr : Room j X.A) (hk : k ≤ j) {on : Str} {op : Pos} (ho : o = .Name on op) (hg : Gl X on) (hm : X.mg on = some (.ref (G.cls c))) (ha : EvV G (rdA X (e :: es)) cs ds cs1) (hC : C (.cls c :: ds) (.val z)) (hdb : (on == ("__debug__" : Str)) = false := by decide)
    (hst : starEach (e :: es) X.env = (false, eval e X.env) :: starEach es X.env := by rfl) (hpl : (backTo pos (starEach es X.env)).any (·.1) = false := by rfl)
    (ht : eval (.Call (.Attribute o m ap) (e :: es) [] pos) X.env = (do
      let ov ← eval o X.env
      standAt ap.atName
      let (f, first) ← holding [ov] (getMethod ov m pl)
      callWith pos f first (backTo pos (starEach (e :: es) X.env)) (backToKw pos (keywordEach [] X.env))) := by rfl) : Ev G (rdE X (.Call (.Attribute o m ap) (e :: es) [] pos)) cs z cs1 := by
  subst ho
  refine ev_of (ClX.pe_cmeth (E := E0) (pe_glob (v := .ref (G.cls c)) hg hm rfl hdb) rd cm Fn (hr.mono hk) pass0 pa_rd hst hpl ht) fun F σ H Q rl q => ⟨rfl, ha F σ H _ rl fun vs F1 H1 st1 r1 q1 => ?_⟩
  exact ⟨F1, .cls c :: ds, .val z, r1.sub, ⟨_, vs, rfl, rfl, q1⟩, hC, fun v F3 H3 g q3 => q v F3 H3 (st1.trans g.stp) (r1.grow g) q3⟩
def gFld (K : PySem.W.Frag) (ta : TE) (f : Str) : TG := fun v σ H Q => ta σ H fun x H1 => ∃ a C dx fs, x = .ref a ∧ H1 a = some (.ins C dx fs) ∧ Cls K C ∧ NoAttr K C f ∧ fs.length < 1000 ∧ Q σ (upd H1 a (.ins C dx (putF f v fs)))
theorem pg_fld {o : Expr} {f : Str} {ta : TE} (ha : PE X o ta) (hg : ∀ v, assign (.Attribute o f pos) X.env v = (do
      let ov ← holding [v] (eval o X.env)
      standAt pos.atName
      holding [v, ov] (setAttr ov f v)
      release [v, ov] []) := by intro _; rfl) : PG X (.Attribute o f pos) (gFld X.K ta f) := by
  refine ⟨fun pins s σ H v u Q I r h => ?_⟩
  rw [hg]
  refine wpAny_bind (wpAny_holding (thn (ha.run pins s σ H _ I h) fun ov s1 ⟨x, H1, I1, rx, a, C, dx, fs, ex, ea, c, n, l, q⟩ => ?_))
  subst ex
  obtain rfl : ov = Value.ref a := rx
  refine wpAny_bind (wpAny_standAt ?_)
  refine wpAny_bind (wpAny_holding (setattr_ok I1 ea c n l r fun s3 I3 => ?_))
  exact wpAny_release ⟨σ, _, I3, q⟩
/-- self.f, self.g = value in __init__ -/
theorem sx_self2 {i : Nat} {l : Addr} {f1 f2 : Str} {x y : D} {n : Str} {P : Post} {p1 p2 p3 p4 pt : Pos} {kt : Nat} (he : Ev G (rdE X e) cs (.tup [x, y]) cs2) (h2 : cs2[i]? = some (.ins l c [])) (hp : P.nx (cs2.set i (.ins l c [x, y]))) (hN : X.N[i]? = some n) (hv : Vis X.env.scope n)
    (cl : Cls X.K (G.cls c)) (n1 : NoAttr X.K (G.cls c) f1) (n2 : NoAttr X.K (G.cls c) f2) (hf : (G.fld c).take 2 = [f1, f2]) (hne : ¬ f1 = f2) (hcalm : X.calm = true) (hK : G.K = X.K := by rfl)
    (hdb : (n == ("__debug__" : Str)) = false := by decide) (hcd : (n == ("__classdict__" : Str)) = false := by decide)
    (hs : swapsWithSole [.Tuple [.Attribute (.Name n p1) f1 p2, .Attribute (.Name n p3) f2 p4] kt pt] e pos.line X.env = pure false := by rfl) (hw : swappedStores [.Tuple [.Attribute (.Name n p1) f1 p2, .Attribute (.Name n p3) f2 p4] kt pt] e X.env = pure none := by rfl) :
    Sx G (rdS X (.Assign [.Tuple [.Attribute (.Name n p1) f1 p2, .Attribute (.Name n p3) f2 p4] kt pt] e pos)) cs P := by
  refine sx_of (ps_asg pe_rd (pg_tup hcalm (pgs_cons (pg_fld (pe_var (i := i) hN hv hdb hcd)) (pgs_cons (pg_fld (pe_var (i := i) hN hv hdb hcd)) pgs_nil))) hs hw rfl) fun F σ H E rl k1 _ _ _ _ => he F σ H _ rl fun v F1 H1 st1 r1 q1 => ?_
  obtain ⟨a, xs, rfl, t1, v1, xr, rfl, hx, v2, xr2, rfl, hy, hz⟩ := q1
  cases hz
  obtain ⟨u, e1, g1, g2, dx, fs0, eu, g3, g4⟩ := r1.owned (l := l) h2 rfl
  subst eu
  have z0 : fs0 = [] := by
    cases fs0 with
    | nil => rfl
    | cons p q => cases g3
  subst z0
  refine ⟨a, _, rfl, by rw [← hK]; exact same_t r1.sub t1, rfl, v1, _, rfl, _, e1, l, _, dx, [], rfl, g1, cl, n1, by decide, v2, [], rfl, _, e1, l, _, dx, _, rfl, upd_same, cl, n2, by show 1 < 1000; decide, rfl, ?_⟩
  have pf : putF f2 v2 (putF f1 v1 []) = [(f1, v1), (f2, v2)] := by
    simp [putF, hne]
  rw [show ∀ (o p : HO), upd (upd H1 l o) l p = upd H1 l p from fun o p => by funext z; by_cases q : z = l <;> simp [upd, q], pf]
  exact k1 _ σ F1 _ hp (st1.trans (Stp.put h2 rfl rfl)) (r1.put h2 rfl rfl ⟨dx, _, rfl, hf.symm, v1, [v2], rfl, hx, v2, [], rfl, hy, rfl⟩)
end
end Fx

/-! Texts; methods of lists; what is built in. -/
namespace Fx
open PySem PyProof PyProof.Rows L2
section
variable {X : Cx} {G : Gx} {e o a b : Expr} {es : List Expr} {pos ap p : Pos} {cs cs1 cs2 cs3 : List Cell} {d x z : D} {ds xs : List D} {n : Str}

/-! ### texts -/
/-- a.m(b): a text's method -/
theorem ev_m1 {id : String} {name x y : Str} {r : V → List V → Hp → VK → Prop} (slot : Slot "str" name id) (ty : typeOf (.builtin id) = pure (.type "method_descriptor")) (rule : MtR X id r) (ho : Ev G (rdE X o) cs (.str x) cs1) (he : Ev G (rdE X e) cs1 (.str y) cs2)
    (hr : ∀ H Q u, (∀ F, Is G F z u) → Q u H → r (.str x) [.str y] H Q) (hz : ∃ u, ∀ F, Is G F z u)
    (hs : starEach [e] X.env = [(false, eval e X.env)] := by rfl) (hbase : attributeBase o name X.env (eval o X.env) = eval o X.env := by rfl) (hline : (ap.endLine == pos.line) = true := by rfl) : Ev G (rdE X (.Call (.Attribute o name ap) [e] [] pos)) cs z cs2 :=
  ev_of (pe_m1 slot ty rule pe_rd pe_rd hs hbase hline) fun F σ H Q rl q => ho F σ H _ rl fun v F1 H1 st1 r1 q1 => by
    cases q1
    refine ⟨⟨x, rfl⟩, he F1 σ H1 _ r1 fun v2 F2 H2 st2 r2 q2 => ?_⟩
    cases q2
    obtain ⟨u, hu⟩ := hz
    exact hr H2 Q u hu (q u F2 H2 (st1.trans st2) r2 (hu F2))
theorem ev_endswith {x y : Str} (ho : Ev G (rdE X o) cs (.str x) cs1) (he : Ev G (rdE X e) cs1 (.str y) cs2)
    (hs : starEach [e] X.env = [(false, eval e X.env)] := by rfl) (hbase : attributeBase o "endswith" X.env (eval o X.env) = eval o X.env := by rfl) (hline : (ap.endLine == pos.line) = true := by rfl) : Ev G (rdE X (.Call (.Attribute o "endswith" ap) [e] [] pos)) cs (.bl (Txt.endswith x y)) cs2 :=
  ev_m1 PySem.F.slot_str_endswith PySem.F.type_str_endswith mt_endswith ho he (fun H Q u hu q => ⟨x, y, rfl, rfl, by have := hu (fun _ => none); cases this; exact q⟩) ⟨_, fun _ => rfl⟩ hs hbase hline
theorem ev_find {x y : Str} (ho : Ev G (rdE X o) cs (.str x) cs1) (he : Ev G (rdE X e) cs1 (.str y) cs2)
    (hs : starEach [e] X.env = [(false, eval e X.env)] := by rfl) (hbase : attributeBase o "find" X.env (eval o X.env) = eval o X.env := by rfl) (hline : (ap.endLine == pos.line) = true := by rfl) : Ev G (rdE X (.Call (.Attribute o "find" ap) [e] [] pos)) cs (.int (Txt.find x y)) cs2 :=
  ev_m1 PySem.F.slot_str_find PySem.F.type_str_find mt_find ho he (fun H Q u hu q => ⟨x, y, rfl, rfl, by have := hu (fun _ => none); cases this; exact q⟩) ⟨_, fun _ => rfl⟩ hs hbase hline
theorem isAll_strs {F : Hp} : ∀ ys : List Str, IsAll G F (ys.map D.str) (ys.map V.str)
  | [] => rfl
  | y :: ys => ⟨_, _, rfl, rfl, isAll_strs ys⟩
theorem strs_isAll {F : Hp} : ∀ {ys : List Str} {vs : List V}, IsAll G F (ys.map D.str) vs → vs = ys.map V.str
  | [], _, h => h
  | y :: ys, _, h => by
    obtain ⟨v, r, rfl, h1, h2⟩ := h
    cases h1
    rw [strs_isAll h2]; rfl
theorem evn_split {x y : Str} (ho : Ev G (rdE X o) cs (.str x) cs1) (he : Ev G (rdE X e) cs1 (.str y) cs2) (h0 : (y.length == 0) = false) (hx : x.length ≤ 10000000)
    (hs : starEach [e] X.env = [(false, eval e X.env)] := by rfl) (hbase : attributeBase o "split" X.env (eval o X.env) = eval o X.env := by rfl) (hline : (ap.endLine == pos.line) = true := by rfl) : EvN G (rdE X (.Call (.Attribute o "split" ap) [e] [] pos)) cs ((Txt.split x y).map .str) cs2 :=
  evn_of (pe_split pe_rd pe_rd hs hbase hline) fun F σ H Q rl q => ho F σ H _ rl fun v F1 H1 st1 r1 q1 => by
    cases q1
    refine ⟨⟨x, rfl⟩, he F1 σ H1 _ r1 fun v2 F2 H2 st2 r2 q2 => ?_⟩
    cases q2
    exact ⟨x, y, rfl, rfl, h0, by rw [sizeLine_eq]; omega, fun p hp => evn_new (st1.trans st2) rl r2 q p _ hp (isAll_strs _)⟩
theorem ev_join {x : Str} {ys : List Str} (ho : Ev G (rdE X o) cs (.str x) cs1) (he : Ev G (rdE X e) cs1 (.lst (ys.map .str)) cs2) (hz : (ys.map (·.length)).sum + ys.length * x.length ≤ 16777216)
    (hs : starEach [e] X.env = [(false, eval e X.env)] := by rfl) (hbase : attributeBase o "join" X.env (eval o X.env) = eval o X.env := by rfl) (hline : (ap.endLine == pos.line) = true := by rfl) : Ev G (rdE X (.Call (.Attribute o "join" ap) [e] [] pos)) cs (.str (Str.join x ys)) cs2 :=
  ev_of (pe_join pe_rd pe_rd hs hbase hline) fun F σ H Q rl q => ho F σ H _ rl fun v F1 H1 st1 r1 q1 => by
    cases q1
    refine ⟨⟨x, rfl⟩, he F1 σ H1 _ r1 fun v2 F2 H2 st2 r2 q2 => ?_⟩
    obtain ⟨a, vs, rfl, h1, h2⟩ := q2
    rw [strs_isAll h2] at h1
    refine ⟨x, a, ys, rfl, rfl, .inl (SqL.of (r2.sub _ _ h1)), hz, ?_⟩
    rw [TL.join_eq]
    exact q _ F2 H2 (st1.trans st2) r2 rfl
/-- str(i) -/
theorem ev_strI {i : Int} (ha : Ev G (rdE X e) cs (.int i) cs1) (hi : i.natAbs.log2 < 1920) (hm : X.mg "str" = none) (hg : Gl X "str") (hs : starEach [e] X.env = (false, eval e X.env) :: starEach [] X.env := by rfl) :
    Ev G (rdE X (.Call (.Name "str" p) [e] [] pos)) cs (.str (toString i)) cs1 :=
  ev_callTy call_str_int (fun F H vs Q sm h q => by
    obtain ⟨v, r, rfl, h1, h2⟩ := h
    cases h1
    cases h2
    exact ⟨i, rfl, hi, q _ F H (.refl sm) rfl⟩) (evv_cons ha evv_nil hs) hg hm boot_str (by decide) (by decide) hs (by rfl)
theorem ev_lenS {s : Str} (ha : Ev G (rdE X e) cs (.str s) cs1) (hz : s.length ≤ 10000000) (hm : X.mg "len" = none) (hg : Gl X "len") (hs : starEach [e] X.env = (false, eval e X.env) :: starEach [] X.env := by rfl) :
    Ev G (rdE X (.Call (.Name "len" p) [e] [] pos)) cs (.int (s.length : Int)) cs1 :=
  ev_callB call_len_str (fun F H vs Q sm h q => by
    obtain ⟨v, r, rfl, h1, h2⟩ := h
    cases h1
    cases h2
    exact ⟨s, rfl, by rw [sizeLine_eq]; omega, q _ F H (.refl sm) rfl⟩) (evv_cons ha evv_nil hs) hg hm boot_len (by decide) (by decide) hs (by rfl)
/-! parts of f'..' -/
inductive EvJ (G : Gx) (X : Cx) : List Expr → List Cell → List Str → List Cell → Prop where
  | nil {cs : List Cell} : EvJ G X [] cs [] cs
  | cons {e : Expr} {es : List Expr} {y : Str} {ys : List Str} {cs cs1 cs2 : List Cell} (h : Ev G (rdE X e) cs (.str y) cs1) (r : EvJ G X es cs1 ys cs2) : EvJ G X (e :: es) cs (y :: ys) cs2
theorem EvJ.pj {ys : List Str} (h : EvJ G X es cs ys cs1) : ∃ ts, PJ X es ts ∧ ∀ (acc : Str) (F : Hp) (σ : L2.St) (H : Hp) (Q : Str → Hp → Prop), Rel G F σ H cs → acc.length + (ys.map (·.length)).sum ≤ 10000000 →
    (∀ F' H', Stp F H (Owns cs) F' H' (Owns cs1) → Rel G F' σ H' cs1 → Q (ys.foldl (· ++ ·) acc) H') → tJs ts acc σ H Q := by
  induction h with
  | nil => exact ⟨[], .nil, fun acc F σ H Q rl hz q => q F H .refl rl⟩
  | @cons e es y ys cs cs1 cs2 h r ih =>
    obtain ⟨ts, hp, hq⟩ := ih
    refine ⟨_ :: ts, .cons pe_rd hp, fun acc F σ H Q rl hz q => h F σ H _ rl fun v F1 H1 st1 r1 q1 => ?_⟩
    cases q1
    have hl : (acc ++ y).length = acc.length + y.length := by
      show (acc.cps ++ y.cps).size = _
      rw [Array.size_append]; rfl
    simp only [List.map_cons, List.sum_cons] at hz
    refine ⟨y, rfl, by rw [hl, sizeLine_eq]; omega, hq (acc ++ y) F1 σ H1 Q r1 (by rw [hl]; omega) fun F2 H2 st2 r2 => q F2 H2 (st1.trans st2) r2⟩
theorem ev_fstr {v1 v2 : Expr} {rest : List Expr} {ys : List Str} (h : EvJ G X (v1 :: v2 :: rest) cs ys cs1) (hz : (ys.map (·.length)).sum ≤ 1000000) : Ev G (rdE X (.JoinedStr (v1 :: v2 :: rest) pos)) cs (.str (ys.foldl (· ++ ·) Str.empty)) cs1 := by
  obtain ⟨ts, hp, hq⟩ := h.pj
  exact ev_of (pe_joined hp) fun F σ H Q rl q => hq _ F σ H _ rl (by show 0 + _ ≤ _; omega) fun F' H' st r => q _ F' H' st r rfl
theorem ev_fmtS {s : Str} (h : Ev G (rdE X e) cs (.str s) cs1) (hz : s.length ≤ 1000000) : Ev G (rdE X (.FormattedValue e (-1) none pos)) cs (.str s) cs1 :=
  ev_of (pe_fmt pe_rd) fun F σ H Q rl q => h F σ H _ rl fun v F1 H1 st1 r1 q1 => by
    cases q1
    exact .inl ⟨s, rfl, by rw [sizeLine_eq]; omega, q _ F1 H1 st1 r1 rfl⟩
theorem ev_fmtI {i : Int} (h : Ev G (rdE X e) cs (.int i) cs1) (hi : i.natAbs.log2 < 1920) : Ev G (rdE X (.FormattedValue e (-1) none pos)) cs (.str (toString i)) cs1 :=
  ev_of (pe_fmt pe_rd) fun F σ H Q rl q => h F σ H _ rl fun v F1 H1 st1 r1 q1 => by
    cases q1
    exact .inr ⟨i, rfl, hi, q _ F1 H1 st1 r1 rfl⟩

/-! ### all, max, min, list -/
theorem bls_isAll {F : Hp} : ∀ {bs : List Bool} {vs : List V}, IsAll G F (bs.map D.bl) vs → vs = bs.map V.bl
  | [], _, h => h
  | y :: ys, _, h => by
    obtain ⟨v, r, rfl, h1, h2⟩ := h
    cases h1
    rw [bls_isAll h2]; rfl
theorem ev_all {bs : List Bool} (ha : Ev G (rdE X e) cs (.lst (bs.map .bl)) cs1) (hc : X.calm = true) (hm : X.mg "all" = none) (hg : Gl X "all") (hs : starEach [e] X.env = (false, eval e X.env) :: starEach [] X.env := by rfl) :
    Ev G (rdE X (.Call (.Name "all" p) [e] [] pos)) cs (.bl (bs.all id)) cs1 :=
  ev_callB (cr_all hc) (fun F H vs Q sm h q => by
    obtain ⟨v, r, rfl, ⟨a, us, rfl, h1, h2⟩, h3⟩ := h
    cases h3
    rw [bls_isAll h2] at h1
    exact ⟨a, bs, rfl, SqL.of (sm _ _ h1), q _ F H (.refl sm) rfl⟩) (evv_cons ha evv_nil hs) hg hm boot_all (by decide) (by decide) hs (by rfl)
theorem ev_any {bs : List Bool} (ha : Ev G (rdE X e) cs (.lst (bs.map .bl)) cs1) (hc : X.calm = true) (hm : X.mg "any" = none) (hg : Gl X "any") (hs : starEach [e] X.env = (false, eval e X.env) :: starEach [] X.env := by rfl) :
    Ev G (rdE X (.Call (.Name "any" p) [e] [] pos)) cs (.bl (bs.any id)) cs1 :=
  ev_callB (cr_any hc) (fun F H vs Q sm h q => by
    obtain ⟨v, r, rfl, ⟨a, us, rfl, h1, h2⟩, h3⟩ := h
    cases h3
    rw [bls_isAll h2] at h1
    exact ⟨a, bs, rfl, SqL.of (sm _ _ h1), q _ F H (.refl sm) rfl⟩) (evv_cons ha evv_nil hs) hg hm boot_any (by decide) (by decide) hs (by rfl)
theorem ev_max2 {i j : Int} (ha : EvV G (rdA X (e :: es)) cs [.int i, .int j] cs1) (hc : X.calm = true) (hm : X.mg "max" = none) (hg : Gl X "max")
    (he : starEach (e :: es) X.env = (false, eval e X.env) :: starEach es X.env := by rfl) (hpl : (backTo pos (starEach es X.env)).any (·.1) = false := by rfl) : Ev G (rdE X (.Call (.Name "max" p) (e :: es) [] pos)) cs (.int (if j > i then j else i)) cs1 :=
  ev_callB (call_max2 hc) (fun F H vs Q sm h q => by
    obtain ⟨v, r, rfl, h1, v2, r2, rfl, h2, h3⟩ := h
    cases h1; cases h2; cases h3
    exact ⟨i, j, rfl, q _ F H (.refl sm) rfl⟩) ha hg hm boot_max (by decide) (by decide) he hpl
theorem ev_min2 {i j : Int} (ha : EvV G (rdA X (e :: es)) cs [.int i, .int j] cs1) (hc : X.calm = true) (hm : X.mg "min" = none) (hg : Gl X "min")
    (he : starEach (e :: es) X.env = (false, eval e X.env) :: starEach es X.env := by rfl) (hpl : (backTo pos (starEach es X.env)).any (·.1) = false := by rfl) : Ev G (rdE X (.Call (.Name "min" p) (e :: es) [] pos)) cs (.int (if j < i then j else i)) cs1 :=
  ev_callB (call_min2 hc) (fun F H vs Q sm h q => by
    obtain ⟨v, r, rfl, h1, v2, r2, rfl, h2, h3⟩ := h
    cases h1; cases h2; cases h3
    exact ⟨i, j, rfl, q _ F H (.refl sm) rfl⟩) ha hg hm boot_min (by decide) (by decide) he hpl
theorem evn_list (ha : Ev G (rdE X e) cs d cs1) (hd : d = .lst xs ∨ d = .tup xs) (hm : X.mg "list" = none) (hg : Gl X "list") (hK : G.K = X.K := by rfl) (hs : starEach [e] X.env = (false, eval e X.env) :: starEach [] X.env := by rfl) :
    EvN G (rdE X (.Call (.Name "list" p) [e] [] pos)) cs xs cs1 :=
  evn_callTy call_list_of (fun F H vs Q sm h q => by
    obtain ⟨v, r, rfl, h1, h3⟩ := h
    cases h3
    rcases hd with rfl | rfl
    · obtain ⟨a, us, rfl, h1, h2⟩ := h1
      exact ⟨a, us, rfl, .inl (SqL.of (sm _ _ h1)), fun l hl => q l us hl h2⟩
    · obtain ⟨a, us, rfl, h1, h2⟩ := h1
      exact ⟨a, us, rfl, .inr (by rw [← hK]; exact same_t sm h1), fun l hl => q l us hl h2⟩) (evv_cons ha evv_nil hs) hg hm boot_list (by decide) (by decide) hs (by rfl)
/-- list(range(n)) -/
theorem evn_listRange {rp lp : Pos} {m : Nat} (ha : Ev G (rdE X e) cs (.int (m : Int)) cs1) (hn : m ≤ 1000000) (hc : X.calm = true) (hm : X.mg "list" = none) (hg : Gl X "list") (hm2 : X.mg "range" = none) (hg2 : Gl X "range") (hs : starEach [e] X.env = (false, eval e X.env) :: starEach [] X.env := by rfl)
    (hs2 : starEach [Expr.Call (.Name "range" p) [e] [] rp] X.env = (false, eval (.Call (.Name "range" p) [e] [] rp) X.env) :: starEach [] X.env := by rfl) :
    EvN G (rdE X (.Call (.Name "list" lp) [.Call (.Name "range" p) [e] [] rp] [] pos)) cs (rng m) cs1 :=
  evn_of (pe_listRg hc hg hm (prg_1 hg2 hm2 pe_rd hs) hs2) fun F σ H Q rl q => ha F σ H _ rl fun v F1 H1 st1 r1 q1 => by
    cases q1
    refine ⟨(m : Int), rfl, ⟨by omega, by omega, by omega, by omega, by omega⟩, fun p hp => evn_new st1 rl r1 q p _ hp ?_⟩
    unfold rgV rng
    rw [show ((m : Int) - 0).toNat = m by omega]
    generalize List.range m = l
    induction l with
    | nil => rfl
    | cons i l ih => exact ⟨_, _, rfl, by show V.int (0 + (i : Int)) = .int (i : Int); rw [Int.zero_add], ih⟩

/-! ### reversed by [::-1] -/
theorem evn_revL {k : Nat} {p1 p2 p3 : Pos} (h : Ev G (rdE X e) cs (.lst xs) cs1) : EvN G (rdE X (.Subscript e (.Slice none none (some (.UnaryOp .USub (.Constant (.int 1) k p1) p2)) p3) pos)) cs xs.reverse cs1 :=
  evn_of (pe_revL pe_rd) fun F σ H Q rl q => h F σ H _ rl fun v F1 H1 st1 r1 q1 => by
    obtain ⟨a, vs, rfl, h1, h2⟩ := q1
    exact ⟨a, vs, rfl, SqL.of (r1.sub _ _ h1), fun p hp => evn_new st1 rl r1 q p _ hp h2.reverse⟩

section
variable {prog : Program} {w : World} {A : Around} {E : Value → Shared → Prop} {s : Shared}
theorem sliceApplied_back {sl : Addr} {n : Nat} {vs : Value} {Q : Int × Int × Nat → Shared → Prop} (hs : s.heap.IsSliceOf sl .none .none vs) (hv : ∃ u, vs = .int (-1) u) (h : Q ((n : Int) - 1, -1, n) s) :
    wpAny (model prog w) A (Builtin.Slice.sliceApplied (.ref sl) (pure (n : Int))) Q E s := by
  obtain ⟨u, rfl⟩ := hv
  obtain ⟨os, hos, hcs, hds⟩ := id hs
  unfold Builtin.Slice.sliceApplied Builtin.Slice.sliceFields
  refine wpAny_bind (wpAny_bind (wpAny_field hos hds (x := .none) rfl (wpAny_bind (wpAny_field hos hds (x := .none) rfl (wpAny_bind (wpAny_field hos hds (x := .int (-1) u) rfl (wpAny_pure ?_)))))))
  refine wpAny_bind (slicePart_int ?_)
  show wpAny _ _ (if ((-1 : Int) == 0) = true then _ else _) _ _ s
  rw [if_neg (by decide)]
  refine wpAny_bind (slicePart_none (wpAny_bind (slicePart_none (wpAny_bind (wpAny_pure ?_)))))
  show wpAny _ _ (match Builtin.Slice.sliceAdjust none none (-1) (n : Int) with | (lo, hi) => pure (lo, (-1 : Int), Builtin.Slice.slicePlaces lo hi (-1))) _ _ s
  have e1 : Builtin.Slice.sliceAdjust none none (-1) (n : Int) = ((n : Int) - 1, -1) := by
    unfold Builtin.Slice.sliceAdjust
    simp
  rw [e1]
  show wpAny _ _ (pure ((n : Int) - 1, (-1 : Int), Builtin.Slice.slicePlaces ((n : Int) - 1) (-1) (-1))) _ _ s
  have e2 : Builtin.Slice.slicePlaces ((n : Int) - 1) (-1) (-1) = n := by
    unfold Builtin.Slice.slicePlaces
    have h1 : ¬ ((-1 : Int) > 0) := by omega
    simp only [h1, if_false, Int.neg_neg, Int.ediv_one]
    split <;> omega
  rw [e2]
  exact wpAny_pure h
theorem fm_congr {α β : Type} {f g : α → Option β} : ∀ {l : List α}, (∀ a ∈ l, f a = g a) → l.filterMap f = l.filterMap g
  | [], _ => rfl
  | a :: l, h => by rw [List.filterMap_cons, List.filterMap_cons, h a (List.mem_cons_self ..), fm_congr fun b hb => h b (List.mem_cons_of_mem _ hb)]
theorem pick_back (xs : Array Value) : ((List.range xs.size).filterMap fun (k : Nat) => xs[((xs.size : Int) - 1 + (k : Int) * (-1)).toNat]?).toArray = xs.toList.reverse.toArray := by
  congr 1
  apply List.ext_getElem?
  intro i
  have e : ((List.range xs.size).filterMap fun (k : Nat) => xs[((xs.size : Int) - 1 + (k : Int) * (-1)).toNat]?) = (List.range xs.size).map fun k => xs.toList.reverse.getD k .none := by
    rw [← List.filterMap_eq_map]
    refine fm_congr fun k hk => ?_
    have hk := List.mem_range.mp hk
    have e1 : ((xs.size : Int) - 1 + (k : Int) * (-1)).toNat = xs.size - 1 - k := by omega
    rw [e1]
    simp only [Function.comp]
    rw [List.getD_eq_getElem?_getD, List.getElem?_reverse (by simpa using hk), Array.length_toList, Array.getElem?_toList, Array.getElem?_eq_getElem (by omega)]
    rfl
  rw [e]
  by_cases hi : i < xs.size
  · rw [List.getElem?_map, List.getElem?_range hi, Option.map_some, List.getD_eq_getElem?_getD, List.getElem?_eq_getElem (by simpa using hi)]
    rfl
  · rw [List.getElem?_eq_none (by simpa using hi), List.getElem?_eq_none (by simpa using hi)]
theorem getItem_tuple_back {t sl : Addr} {items : Array Value} {vs : Value} {Q : Value → Shared → Prop} (ht : IsTup s.heap t items) (hs : s.heap.IsSliceOf sl .none .none vs) (hv : ∃ u, vs = .int (-1) u)
    (h : Q (.ref s.heap.objs.size) { s with heap := s.heap.push { cls := .type "tuple", data := .seq items.toList.reverse.toArray } })
    (hsz : items.size ≤ sizeLine) : wpAny (model prog w) A (getItem (.ref t) (.ref sl)) Q E s := by
  have hdrop : sizeOk (.seq items.toList.reverse.toArray) := by
    show items.toList.reverse.toArray.size ≤ sizeLine
    rw [List.size_toArray, List.length_reverse, Array.length_toList]
    exact hsz
  obtain ⟨os, hos, hcs, hds⟩ := id hs
  have hTs : s.TypeIs (.ref sl) "slice" := ⟨os, hos, hcs⟩
  unfold getItem
  try with_reducible refine wpAny_holding ?_
  first | refine wpAny_bind (wpAny_pure ?_) | skip
  refine wpAny_bind (wpAny_sequenceKey ht.typeIs (by decide) ?_)
  refine wpAny_bind (wpAny_callSpecial?_slot (name := Str.ofString "__getitem__") ht.typeIs slot_tuple_getitem
    (wpAny_call_entry slot_tuple_getitem ht.typeIs entry_tuple_getitem ?_ (args_tuple_getitem _ _)))
  show wpAny _ _ (Builtin.Tuple.tupleItemsOf (.ref t) >>= _) _ _ s
  refine wpAny_bind (tupleItemsOf_ ht ?_)
  refine wpAny_bind (wpAny_typeOf hTs ?_)
  rw [if_pos (by decide)]
  refine wpAny_bind (sliceApplied_back hs hv ?_)
  have hno : ¬ ((((items.size : Int) - 1) == 0 && (-1 : Int) == 1 && items.size == items.size) = true) := by
    simp
  show wpAny _ _ (if (((items.size : Int) - 1) == 0 && (-1 : Int) == 1 && items.size == items.size) = true then _ else _) _ _ s
  rw [if_neg hno, pick_back items]
  first
    | exact wpAny_bind (m := Builtin.Tuple.tupleExact _) (wpAny_newObj_type (wpAny_pure ⟨_, rfl, wpAny_pure h⟩) hdrop)
    | exact wpAny_bind (m := Builtin.Tuple.tupleExact _) (wpAny_newObj_type (wpAny_bind (wpAny_pure (wpAny_pure ⟨_, rfl, wpAny_pure h⟩))) hdrop)
    | exact wpAny_bind (wpAny_bind (m := Builtin.Tuple.tupleExact _) (wpAny_newObj_type (wpAny_pure (wpAny_pure ⟨_, rfl, wpAny_pure h⟩)) hdrop))
    | exact wpAny_bind (wpAny_bind (m := Builtin.Tuple.tupleExact _) (wpAny_newObj_type (wpAny_pure ⟨_, rfl, wpAny_pure h⟩) hdrop))
end
def tRevT (K : PySem.W.Frag) (te : TE) : TE := fun σ H Q => te σ H fun x H1 => ∃ a xs, x = .ref a ∧ SqT K H1 a xs ∧ ∀ p, H1 p = none → Q (.ref p) (upd H1 p (.tup xs.reverse))
theorem pe_revT {te : TE} {k : Nat} {p1 p2 p3 : Pos} (he : PE X e te) : PE X (.Subscript e (.Slice none none (some (.UnaryOp .USub (.Constant (.int 1) k p1) p2)) p3) pos) (tRevT X.K te) := by
  refine ⟨fun pins s σ H Q I h => ?_⟩
  refine Subscript_ (thn (he.run pins s σ H _ I h) fun v s1 ⟨x, H1, I1, r1, q1⟩ => ?_)
  obtain ⟨a, xs, ex, hx, q⟩ := q1
  subst ex
  cases r1
  have hst : PO X (some (.UnaryOp .USub (.Constant (.int 1) k p1) p2)) (tPart (tUn (rU fun i => .int (-i)) (tC (.int 1)))) := po_some (pe_un un_neg pe_int)
  refine wpAny_Slice (thn (po_none.run pins s1 σ H1 (fun o H2 => o = none ∧ H2 = H1) I1 ⟨rfl, rfl⟩) fun vl s2 ⟨l, H2, I2, pl, el, e2⟩ => ?_)
  subst el e2
  refine thn (po_none.run pins s2 σ H2 (fun o H3 => o = none ∧ H3 = H2) I2 ⟨rfl, rfl⟩) fun vu s3 ⟨u, H3, I3, pu, eu, e3⟩ => ?_
  subst eu e3
  refine thn (hst.run pins s3 σ H3 (fun o H4 => o = some (-1) ∧ H4 = H3) I3 ⟨1, rfl, -1, rfl, rfl, rfl⟩) fun vs s4 ⟨o, H4, I4, ps, eo, e4⟩ => ?_
  subst eo e4
  have I5 : Inv X pins σ H4 { s4 with heap := s4.heap.push { cls := .type "slice", data := .fields #[vl, vu, vs] } } := I4.kept (t' := s4.toks) fun b ob q => Heap.get?_push_of_some _ q
  obtain ⟨its, r, ht, hz⟩ := I5.tuple hx
  have hlen := r.length
  show wpAny (model X.prog X.w) X.A (subscriptTail e (.Slice none none (some (.UnaryOp .USub (.Constant (.int 1) k p1) p2)) p3) (.ref a) (.ref s4.heap.objs.size)) (EP X pins σ Q) X.xe { s4 with heap := s4.heap.push { cls := .type "slice", data := .fields #[vl, vu, vs] } }
  refine tail_any (ops := [.ref a, .ref s4.heap.objs.size]) ht.typeIs (slot_tuple_getitem.lookup) ?_ (by with_unfolding_all rfl)
  cases pl
  cases pu
  refine getItem_tuple_back ht (Heap.IsSliceOf.new _ _ _ vs) (by cases ps; exact ⟨_, rfl⟩) ?_ (by rw [List.size_toArray]; omega)
  refine ⟨.ref _, _, I5.laid (t' := s4.toks) (o := .tup xs.reverse) (fun b ob q => Heap.get?_push_of_some _ q) (Nat.le_refl _) ?_, rfl, q _ (I5.hok.fresh (Nat.le_refl _))⟩
  exact ⟨by rw [List.length_reverse]; exact hz, _, r.reverse, IsTup.new _ _⟩
theorem ev_revT {k : Nat} {p1 p2 p3 : Pos} (h : Ev G (rdE X e) cs (.tup xs) cs1) (hK : G.K = X.K := by rfl) : Ev G (rdE X (.Subscript e (.Slice none none (some (.UnaryOp .USub (.Constant (.int 1) k p1) p2)) p3) pos)) cs (.tup xs.reverse) cs1 :=
  ev_of (pe_revT pe_rd) fun F σ H Q rl q => h F σ H _ rl fun v F1 H1 st1 r1 q1 => by
    obtain ⟨a, vs, rfl, h1, h2⟩ := q1
    refine ⟨a, vs, rfl, by rw [← hK]; exact same_t r1.sub h1, fun p hp => ?_⟩
    have g := grow_know (o := .tup vs.reverse) r1.sub hp
    exact q _ _ _ (st1.trans g.stp) (r1.grow g) ⟨p, _, rfl, SqT.of upd_same, IsAll.mono g.fsub _ h2.reverse⟩
/-! ### zip -/
theorem ei_zip {e2 : Expr} {xs ys : List D} {zp tpos : Pos} {elts : List Expr} {kk : Nat} (h : EvV G (rdA X [e, e2]) cs [.lst xs, .lst ys] cs1) (hg : Gl X "zip") (hm : X.mg "zip" = none)
    (hs : starEach [e, e2] X.env = (false, eval e X.env) :: starEach [e2] X.env := by rfl) (hpl : (backTo pos (starEach [e2] X.env)).any (·.1) = false := by rfl) (hl : xs.length = ys.length) :
    EvI G (rdI X (.Tuple elts kk tpos) (.Call (.Name "zip" zp) [e, e2] [] pos)) cs (List.zipWith (fun x y => .tup [x, y]) xs ys) cs1 :=
  ei_of (pi_zip hg hm pa_rd hs hpl) fun F σ H R rl q => h F σ H _ rl fun vs F1 H1 st1 r1 q1 => by
    obtain ⟨v1, r, rfl, ⟨a, us, rfl, h1, h2⟩, v2, r', rfl, ⟨b, ws, rfl, h3, h4⟩, h5⟩ := q1
    cases h5
    refine ⟨a, b, us, ws, rfl, SqL.of (r1.sub _ _ h1), SqL.of (r1.sub _ _ h3), q _ F1 H1 st1 r1 fun F2 H2 s1 s2 => ⟨fun i d hd => ?_, ?_⟩⟩
    · have ha := SqL.of (K := X.K) (s2 _ _ (s1 _ _ h1))
      have hb := SqL.of (K := X.K) (s2 _ _ (s1 _ _ h3))
      rw [List.getElem?_zipWith] at hd
      cases ex : xs[i]? with
      | none => rw [ex] at hd; cases hd
      | some x =>
        cases ey : ys[i]? with
        | none => rw [ex, ey] at hd; cases hd
        | some y =>
          rw [ex, ey] at hd
          cases hd
          obtain ⟨vx, e1, i1⟩ := h2.get ex
          obtain ⟨vy, e2, i2⟩ := h4.get ey
          refine ⟨⟨us, ws, vx, vy, ha, hb, e1, e2⟩, ?_⟩
          rintro z H3 ⟨T, x', y', rfl, hT, rfl, q1, q2⟩
          have z1 := q1 _ ha
          have z2 := q2 _ hb
          rw [e1] at z1; cases z1
          rw [e2] at z2; cases z2
          have g := grow_know (o := .tup [vx, vy]) s2 hT
          exact ⟨_, g, T, _, rfl, SqT.of upd_same, vx, [vy], rfl, Is.mono (s1.trans g.fsub) _ i1, vy, [], rfl, Is.mono (s1.trans g.fsub) _ i2, rfl⟩
    · refine ⟨us, ws, SqL.of (s2 _ _ (s1 _ _ h1)), SqL.of (s2 _ _ (s1 _ _ h3)), .inl ?_⟩
      rw [h2.length, List.length_zipWith]; omega
/-! ### a list of ours changes -/
variable {i : Nat} {l : Addr} {P : Post} {np : Pos} {es' : List D}
/-- xs.pop(e) -/
theorem ev_popAt (i : Nat) {j : Int} {m : Nat} (h : cs[i]? = some (.own l ds)) (he : Ev G (rdE X e) cs (.int j) cs1) (h1 : cs1[i]? = some (.own l es')) (hj : j = (m : Int)) (hz : es'[m]? = some z) (hl : es'.length ≤ 1000000) (hN : X.N[i]? = some n) (hv : Vis X.env.scope n)
    (hpe : ∀ {to : TE} {t : TA}, PE X (.Name n np) to → PA X [e] t → PE X (.Call (.Attribute (.Name n np) "pop" ap) [e] [] pos) (tBM X.K "list" rPopAt to t)) (hd : (n == ("__debug__" : Str)) = false := by decide) (hcd : (n == ("__classdict__" : Str)) = false := by decide)
    (hs : starEach [e] X.env = (false, eval e X.env) :: starEach [] X.env := by rfl) :
    Ev G (rdE X (.Call (.Attribute (.Name n np) "pop" ap) [e] [] pos)) cs z (cs1.set i (.own l (es'.eraseIdx m))) :=
  ev_of (hpe (pe_var hN hv hd hcd) (pa_cons pe_rd pa_nil hs)) fun F σ H Q rl q => by
    obtain ⟨vs, e1, _, _, _, ty⟩ := own_meth (X := X) (id := "") (rr := fun _ _ _ _ => True) rl h
    refine ⟨.ref l, e1, ty, he F σ H _ rl fun v F1 H1 st1 r1 q1 => ?_⟩
    cases q1
    obtain ⟨vs1, e2, h2, h3, h4⟩ := r1.own h1
    obtain ⟨y, hy, iy⟩ := h4.get hz
    have hm : m < es'.length := (List.getElem?_eq_some_iff.mp hz).1
    subst hj
    refine ⟨l, vs1, (m : Int), m, y, rfl, rfl, h2, by omega, by omega, ?_, hy, q y F1 _ (st1.trans (Stp.write h1)) (r1.write h1 (h4.eraseIdx m)) iy⟩
    rw [h4.length]
    unfold seqIndex?
    simp
    omega
/-- xs.extend(a list) -/
theorem sx_extend (i : Nat) {ys : List D} {spos : Pos} (h : cs[i]? = some (.own l ds)) (he : Ev G (rdE X e) cs (.lst ys) cs1) (h1 : cs1[i]? = some (.own l es')) (hz : es'.length + ys.length ≤ 1000000) (hp : P.nx (cs1.set i (.own l (es' ++ ys)))) (hN : X.N[i]? = some n) (hv : Vis X.env.scope n)
    (hpe : ∀ {to : TE} {t : TA}, PE X (.Name n np) to → PA X [e] t → PE X (.Call (.Attribute (.Name n np) "extend" ap) [e] [] pos) (tBM X.K "list" rExtend to t)) (hd : (n == ("__debug__" : Str)) = false := by decide) (hcd : (n == ("__classdict__" : Str)) = false := by decide)
    (hs : starEach [e] X.env = (false, eval e X.env) :: starEach [] X.env := by rfl) (hsw : swapsWith (.Call (.Attribute (.Name n np) "extend" ap) [e] [] pos) none spos.line X.env = pure false := by rfl) :
    Sx G (rdS X (.Expr (.Call (.Attribute (.Name n np) "extend" ap) [e] [] pos) spos)) cs P :=
  sx_of (ps_expr (hpe (pe_var hN hv hd hcd) (pa_cons pe_rd pa_nil hs)) hsw) fun F σ H E rl k1 _ _ _ _ => by
    obtain ⟨vs, e1, _, _, _, ty⟩ := own_meth (X := X) (id := "") (rr := fun _ _ _ _ => True) rl h
    refine ⟨.ref l, e1, ty, he F σ H _ rl fun v F1 H1 st1 r1 q1 => ?_⟩
    obtain ⟨b, us, rfl, q1, q2⟩ := q1
    obtain ⟨vs1, e2, h2, h3, h4⟩ := r1.own h1
    refine ⟨l, b, vs1, us, rfl, rfl, h2, r1.sub _ _ q1, ?_, ?_⟩
    · rw [h4.length, q2.length, sizeLine_eq]; omega
    · exact k1 _ σ F1 _ hp (st1.trans (Stp.write h1)) (r1.write h1 (h4.append q2))
def rInsert : V → List V → Hp → VK → Prop := fun x vs H Q => ∃ l xs k y, x = .ref l ∧ vs = [.int ((k : Nat) : Int), y] ∧ H l = some (.lst xs) ∧ k ≤ xs.length ∧ xs.length < 10000000 ∧ Q .non (upd H l (.lst (xs.take k ++ y :: xs.drop k)))
theorem mt_insert : MtM X "list.insert" rInsert := by
  intro pins s σ H x vs v us Q I rx rv h
  obtain ⟨l, xs, k, y, rfl, rfl, hH, hk, hz, q⟩ := h
  cases rx
  obtain ⟨u, w, rfl, ⟨t, rfl⟩, rw'⟩ := rv.two
  obtain ⟨z, its, n, r, hl, e⟩ := I.lstM hH
  have hs1 : its.toArray.size ≤ sizeLine := by rw [List.size_toArray, sizeLine_eq]; omega
  have hk2 : k ≤ its.length := hl ▸ hk
  have hf : Builtin.List.listFitsIndex ((k : Nat) : Int) = true := fitsIndex_both (by omega) (by omega)
  obtain ⟨x, hx⟩ : ∃ x : Int, x = ((k : Nat) : Int) := ⟨_, rfl⟩
  rw [← hx] at hf ⊢
  refine call_meets PySem.F.slot_list_insert ⟨_, e, rfl⟩ PySem.F.entry_list_insert (PySem.F.args_list_insert_3 _ _ _) (PySem.AutoSeq1.list_insert_list_int_val_1 l its.toArray n x t w (by simp [hf]) hs1) ⟨e, ?_⟩
  refine ⟨.non, _, I.lset (its' := its.take k ++ w :: its.drop k) hH e ?_ ?_ ?_, rfl, q⟩
  · have h0 : ¬ (x < 0) := by omega
    have h1 : min x.toNat its.toArray.size = k := by rw [List.size_toArray]; omega
    simp only [h0, if_false, h1]
    apply Array.toList_inj.mp
    simp
    rw [List.take_of_length_le (by simp)]
  · exact (r.take k).append (.cons rw' (r.drop k))
  · simp; rw [sizeLine_eq]; omega
/-- xs.insert(k, e) -/
theorem sx_insert (i : Nat) {m : Nat} {spos : Pos} (h : cs[i]? = some (.own l ds)) (he : EvV G (rdA X (a :: es)) cs [.int (m : Int), d] cs1) (h1 : cs1[i]? = some (.own l es')) (hm : m ≤ es'.length) (hz : es'.length ≤ 1000000) (hp : P.nx (cs1.set i (.own l (es'.take m ++ d :: es'.drop m)))) (hN : X.N[i]? = some n) (hv : Vis X.env.scope n)
    (hpe : ∀ {to : TE} {t : TA}, PE X (.Name n np) to → PA X (a :: es) t → PE X (.Call (.Attribute (.Name n np) "insert" ap) (a :: es) [] pos) (tBM X.K "list" rInsert to t)) (hd : (n == ("__debug__" : Str)) = false := by decide) (hcd : (n == ("__classdict__" : Str)) = false := by decide)
    (hsw : swapsWith (.Call (.Attribute (.Name n np) "insert" ap) (a :: es) [] pos) none spos.line X.env = pure false := by rfl) :
    Sx G (rdS X (.Expr (.Call (.Attribute (.Name n np) "insert" ap) (a :: es) [] pos) spos)) cs P :=
  sx_of (ps_expr (hpe (pe_var hN hv hd hcd) pa_rd) hsw) fun F σ H E rl k1 _ _ _ _ => by
    obtain ⟨vs, e1, _, _, _, ty⟩ := own_meth (X := X) (id := "") (rr := fun _ _ _ _ => True) rl h
    refine ⟨.ref l, e1, ty, he F σ H _ rl fun v F1 H1 st1 r1 q1 => ?_⟩
    obtain ⟨v1, r, rfl, c1, v2, r', rfl, c2, c3⟩ := q1
    cases c1
    cases c3
    obtain ⟨vs1, e2, h2, h3, h4⟩ := r1.own h1
    have hl := h4.length
    exact ⟨l, vs1, m, v2, rfl, rfl, h2, by omega, by omega, k1 _ σ F1 _ hp (st1.trans (Stp.write h1)) (r1.write h1 ((h4.take m).append ⟨v2, _, rfl, c2, h4.drop m⟩))⟩
/-- xs[k] = e -/
theorem sx_setIx (i : Nat) {j : Int} {m : Nat} {ix : Expr} {sp : Pos} (he : Ev G (rdE X e) cs d cs1) (hx : Ev G (rdE X ix) cs1 (.int j) cs2) (h0 : cs1[i]? = some (.own l ds)) (h1 : cs2[i]? = some (.own l es')) (hj : ixN es'.length j = some m) (hp : P.nx (cs2.set i (.own l (es'.set m d)))) (hN : X.N[i]? = some n) (hv : Vis X.env.scope n)
    (hd : (n == ("__debug__" : Str)) = false := by decide) (hcd : (n == ("__classdict__" : Str)) = false := by decide)
    (hs : swapsWithSole [.Subscript (.Name n np) ix sp] e pos.line X.env = pure false := by rfl) (hw : swappedStores [.Subscript (.Name n np) ix sp] e X.env = pure none := by rfl) (h1' : (assignEach [.Subscript (.Name n np) ix sp] X.env).map (·.2) = [assign (.Subscript (.Name n np) ix sp) X.env] := by rfl)
    (ha : ∀ v, assign (.Subscript (.Name n np) ix sp) X.env v = (do
      let ov ← holding [v] (eval (.Name n np) X.env)
      let iv ← holding [v, ov] (eval ix X.env)
      standAt sp
      holding [v, ov, iv] (setItem ov iv v)
      release [v, ov, iv] []) := by intro _; rfl) :
    Sx G (rdS X (.Assign [.Subscript (.Name n np) ix sp] e pos)) cs P :=
  sx_of (ps_asg pe_rd (pg_sub (pe_var (i := i) hN hv hd hcd) pe_rd set_list ha) hs hw h1') fun F σ H E rl k1 _ _ _ _ => he F σ H _ rl fun v F1 H1 st1 r1 q1 => by
    obtain ⟨vs0, e0, _⟩ := r1.own h0
    refine ⟨.ref l, e0, hx F1 σ H1 _ r1 fun v2 F2 H2 st2 r2 q2 => ?_⟩
    cases q2
    obtain ⟨vs1, e2, h2, h3, h4⟩ := r2.own h1
    refine ⟨l, vs1, j, m, rfl, rfl, h2, by rw [h4.length]; exact hj, k1 _ σ F2 _ hp ((st1.trans st2).trans (Stp.write h1)) (r2.write h1 (h4.set m (Is.mono st2.fsub d q1)))⟩
end
end Fx

/-! A class's parts, each with its promise. -/
namespace Fx
open PySem PyProof PyProof.Rows L2
section
variable (G : Gx) (P : Program) (w : World) (mg : Str → Option Value) (base : Heap) (c k : Nat)
def PkProp (f g : Str) : Prop := ∃ pa ga fd, PropOf G.K (G.cls c) f pa ga ∧ FnOk P w G.K mg base CX0 k ga fd ["self"] (getSp (G.cls c) g) ∧ Binds G.K fd ["self"] []
def PkMeth0 (m : Str) (C : List D → Out → Prop) : Prop := ∃ f fd ps, Meth G.K (G.cls c) m f ∧ FnOk P w G.K mg base CX0 k f fd ps (sp0 G C) ∧ Binds G.K fd ps []
def PkMeth (m : Str) (C : List D → Out → Prop) : Prop := ∃ f, Meth G.K (G.cls c) m f ∧ FnR P w G.K mg base CX0 k f (sp0 G C)
def PkInit (C : List D → List D → Prop) : Prop := ∃ f, Mk G.K (G.cls c) f ∧ FnR P w G.K mg base CX0 k f (spI G c C)
def PkCls (m : Str) (C : List D → Out → Prop) : Prop := ∃ mc pa g, ClX.CRead G.K (G.cls c) mc ∧ ClX.CMet G.K (G.cls c) mc m pa g ∧ FnR P w G.K mg base CX0 k g (sp0 G C)
end
section
variable {X : Cx} {G : Gx} {e o : Expr} {es : List Expr} {pos ap np op : Pos} {cs cs1 cs2 : List Cell} {d z : D} {ds fs es' : List D} {c j k m : Nat} {n : Str}
theorem ev_propP {f g : Str} (Pk : PkProp G X.prog X.w X.mg X.base c k f g) (he : Ev G (rdE X e) cs (.obj c ds) cs1) (hj : (G.fld c).findIdx? (· == g) = some m) (hd : ds[m]? = some z) (cl : Cls G.K (G.cls c)) (hr : Room j X.A) (hk : k + 1 ≤ j) (hK : G.K = X.K := by rfl) (hx : Passes CX0 X.nox E0 := by exact pass0) (hab : attributeBase e f X.env (eval e X.env) = eval e X.env := by rfl) : Ev G (rdE X (.Attribute e f pos)) cs z cs1 := by
  obtain ⟨pa, ga, fd, h1, h2, h3⟩ := Pk
  rw [hK] at h1 h2 h3 cl
  exact ev_prop he hj hd cl h1 h2 h3 hr hk hx hab
theorem ev_meth0P {nm : Str} {C : List D → Out → Prop} {pl : Sem Bool} (Pk : PkMeth0 G X.prog X.w X.mg X.base c k nm C) (ho : Ev G (rdE X o) cs (.obj c ds) cs1) (cl : Cls G.K (G.cls c)) (hl : (G.fld c).contains nm = false) (hr : Room j X.A) (hk : k ≤ j) (hC : C [.obj c ds] (.val z)) (hK : G.K = X.K := by rfl)
    (ht : eval (.Call (.Attribute o nm ap) [] [] pos) X.env = (do
      let ov ← eval o X.env
      standAt ap.atName
      let (f, first) ← holding [ov] (getMethod ov nm pl)
      callWith pos f first (backTo pos (starEach [] X.env)) (backToKw pos (keywordEach [] X.env))) := by rfl) : Ev G (rdE X (.Call (.Attribute o nm ap) [] [] pos)) cs z cs1 := by
  obtain ⟨f, fd, ps, h1, h2, h3⟩ := Pk
  rw [hK] at h1 h2 h3 cl
  exact ev_meth0 ho cl h1 hl h2 h3 hr hk hC ht
theorem ev_methP {nm : Str} {C : List D → Out → Prop} {pl : Sem Bool} (Pk : PkMeth G X.prog X.w X.mg X.base c k nm C) (ho : Ev G (rdE X o) cs (.obj c ds) cs1) (cl : Cls G.K (G.cls c)) (hl : (G.fld c).contains nm = false) (hr : Room j X.A) (hk : k ≤ j) (ha : EvV G (rdA X (e :: es)) cs1 es' cs2) (hC : C (.obj c ds :: es') (.val z)) (hK : G.K = X.K := by rfl)
    (hst : starEach (e :: es) X.env = (false, eval e X.env) :: starEach es X.env := by rfl) (hpl : (backTo pos (starEach es X.env)).any (·.1) = false := by rfl)
    (ht : eval (.Call (.Attribute o nm ap) (e :: es) [] pos) X.env = (do
      let ov ← eval o X.env
      standAt ap.atName
      let (f, first) ← holding [ov] (getMethod ov nm pl)
      callWith pos f first (backTo pos (starEach (e :: es) X.env)) (backToKw pos (keywordEach [] X.env))) := by rfl) : Ev G (rdE X (.Call (.Attribute o nm ap) (e :: es) [] pos)) cs z cs2 := by
  obtain ⟨f, h1, h2⟩ := Pk
  rw [hK] at h1 h2 cl
  exact ev_meth ho cl h1 hl h2 hr hk ha hC hst hpl ht
theorem ev_makeSP {C : List D → List D → Prop} (Pk : PkInit G X.prog X.w X.mg X.base c k C) (hr : Room j X.A) (hk : k + 1 ≤ j) (ha : EvV G (rdA X (e :: es)) cs ds cs1) (hz : ds.length ≤ 100000) (hC : C ds fs) (hg : Gl X n) (hm : X.mg n = some (.ref (G.cls c))) (hK : G.K = X.K := by rfl) (hdb : (n == ("__debug__" : Str)) = false := by decide)
    (he : starEach (e :: es) X.env = (false, eval e X.env) :: starEach es X.env := by rfl) (hst : (backTo pos (starEach es X.env)).any (·.1) = true := by rfl) : Ev G (rdE X (.Call (.Name n np) (e :: es) [] pos)) cs (.obj c fs) cs1 := by
  obtain ⟨f, h1, h2⟩ := Pk
  rw [hK] at h1 h2
  exact ev_makeS h1 h2 hr hk ha hz hC hg hm hdb he hst
theorem ev_makeP {C : List D → List D → Prop} (Pk : PkInit G X.prog X.w X.mg X.base c k C) (hr : Room j X.A) (hk : k + 1 ≤ j) (ha : EvV G (rdA X (e :: es)) cs ds cs1) (hz : ds.length ≤ 100000) (hC : C ds fs) (hg : Gl X n) (hm : X.mg n = some (.ref (G.cls c))) (hK : G.K = X.K := by rfl) (hdb : (n == ("__debug__" : Str)) = false := by decide)
    (he : starEach (e :: es) X.env = (false, eval e X.env) :: starEach es X.env := by rfl) (hpl : (backTo pos (starEach es X.env)).any (·.1) = false := by rfl) : Ev G (rdE X (.Call (.Name n np) (e :: es) [] pos)) cs (.obj c fs) cs1 := by
  obtain ⟨f, h1, h2⟩ := Pk
  rw [hK] at h1 h2
  exact ev_make h1 h2 hr hk ha hz hC hg hm hdb he hpl
theorem ev_makeLSP {C : List D → List D → Prop} (i : Nat) (Pk : PkInit G X.prog X.w X.mg X.base c k C) (hr : Room j X.A) (hk : k + 1 ≤ j) (hi : cs[i]? = some (.val (.cls c))) (ha : EvV G (rdA X (e :: es)) cs ds cs1) (hz : ds.length ≤ 100000) (hC : C ds fs) (hN : X.N[i]? = some n) (hv : Vis X.env.scope n) (hK : G.K = X.K := by rfl) (hdb : (n == ("__debug__" : Str)) = false := by decide) (hcd : (n == ("__classdict__" : Str)) = false := by decide)
    (he : starEach (e :: es) X.env = (false, eval e X.env) :: starEach es X.env := by rfl) (hst : (backTo pos (starEach es X.env)).any (·.1) = true := by rfl) : Ev G (rdE X (.Call (.Name n np) (e :: es) [] pos)) cs (.obj c fs) cs1 := by
  obtain ⟨f, h1, h2⟩ := Pk
  rw [hK] at h1 h2
  exact ev_makeLS i h1 h2 hr hk hi ha hz hC hN hv hdb hcd he hst
theorem ev_cmethP {nm on : Str} {C : List D → Out → Prop} {pl : Sem Bool} (Pk : PkCls G X.prog X.w X.mg X.base c k nm C) (hr : Room j X.A) (hk : k ≤ j) (hg : Gl X on) (hm : X.mg on = some (.ref (G.cls c))) (ha : EvV G (rdA X (e :: es)) cs ds cs1) (hC : C (.cls c :: ds) (.val z)) (hK : G.K = X.K := by rfl) (hdb : (on == ("__debug__" : Str)) = false := by decide)
    (hst : starEach (e :: es) X.env = (false, eval e X.env) :: starEach es X.env := by rfl) (hpl : (backTo pos (starEach es X.env)).any (·.1) = false := by rfl)
    (ht : eval (.Call (.Attribute (.Name on op) nm ap) (e :: es) [] pos) X.env = (do
      let ov ← eval (.Name on op) X.env
      standAt ap.atName
      let (f, first) ← holding [ov] (getMethod ov nm pl)
      callWith pos f first (backTo pos (starEach (e :: es) X.env)) (backToKw pos (keywordEach [] X.env))) := by rfl) : Ev G (rdE X (.Call (.Attribute (.Name on op) nm ap) (e :: es) [] pos)) cs z cs1 := by
  obtain ⟨mc, pa, g, h1, h2, h3⟩ := Pk
  rw [hK] at h1 h2 h3
  exact ev_cmeth h1 h2 h3 hr hk rfl hg hm ha hC hdb hst hpl ht
theorem ei_lp {tg iter : Expr} (h : Ev G (rdE X iter) cs d cs1) (hs : d = .lst ds ∨ d = .ptup ds) (hK : G.K = X.K := by rfl) : EvI G (rdI X tg iter) cs ds cs1 := by
  rcases hs with rfl | rfl
  · exact ei_list h
  · exact ei_tup (ev_ptup h) hK
theorem ev_cntQ {q : D} {xs : List D} (hq : q = .lst xs ∨ q = .ptup xs) (ho : Ev G (rdE X o) cs q cs1) (he : Ev G (rdE X e) cs1 d cs2) (hu : X.A.units + 65 < cLine) (fx : fine (.lst xs)) (fy : fine (.tup xs)) (fd : fine d)
    (hpe : ∀ {to : TE} {t : TA}, PE X o to → PA X [e] t → PE X (.Call (.Attribute o "count" ap) [e] [] pos) (tBM X.K "list" (rCntL X.K) to t)) (hpt : ∀ {to : TE} {t : TA}, PE X o to → PA X [e] t → PE X (.Call (.Attribute o "count" ap) [e] [] pos) (tTM (rCntT X.K) to t))
    (hK : G.K = X.K := by rfl) (hs : starEach [e] X.env = (false, eval e X.env) :: starEach [] X.env := by rfl) :
    Ev G (rdE X (.Call (.Attribute o "count" ap) [e] [] pos)) cs (.int (xs.countP fun z => eqD z d : Nat)) cs2 := by
  rcases hq with rfl | rfl
  · exact ev_cntL ho he hu fx fd hpe hK hs
  · exact ev_cntT ho he hu fy fd hpt hK hs
end
end Fx

/-! Lists of lists that are ours. -/
namespace Fx
open PySem PyProof PyProof.Rows L2
/-- a list of lists, no name holds it yet -/
structure MatAt (G : Gx) (F H : Hp) (O : Addr → Prop) (l : Addr) (ls : List Addr) (rows : List (List D)) : Prop where
  at_ : H l = some (.lst (ls.map .ref))
  un : F l = none
  no : ¬ O l
  out : l ∉ ls
  nd : ls.Nodup
  len : ls.length = rows.length
  row : ∀ (j : Nat) (a : Addr) (row : List D), ls[j]? = some a → rows[j]? = some row → ∃ vs, H a = some (.lst vs) ∧ F a = none ∧ ¬ O a ∧ IsAll G F row vs
def EvM (G : Gx) (te : TE) (cs : List Cell) (rows : List (List D)) (cs' : List Cell) : Prop := ∀ (F : Hp) (σ : L2.St) (H : Hp) (Q : VK), Rel G F σ H cs →
  (∀ l ls F' H', Stp F H (Owns cs) F' H' (Owns cs') → Rel G F' σ H' cs' → MatAt G F' H' (Owns cs') l ls rows → H l = none → (∀ a ∈ ls, H a = none) → Q (.ref l) H') → te σ H Q
section
variable {G : Gx} {F H F' H' : Hp} {O O' : Addr → Prop} {σ : L2.St} {cs cs1 : List Cell} {l : Addr} {ls : List Addr} {rows : List (List D)} {i : Nat}
theorem MatAt.rowOf (m : MatAt G F H O l ls rows) {a : Addr} (h : a ∈ ls) : ∃ vs, H a = some (.lst vs) ∧ F a = none ∧ ¬ O a := by
  obtain ⟨j, hj⟩ := List.getElem?_of_mem h
  have hlt : j < rows.length := by rw [← m.len]; exact (List.getElem?_eq_some_iff.mp hj).1
  obtain ⟨vs, q1, q2, q3, _⟩ := m.row j a rows[j] hj (List.getElem?_eq_getElem hlt)
  exact ⟨vs, q1, q2, q3⟩
theorem MatAt.step (m : MatAt G F H O l ls rows) (s : Stp F H O F' H' O') : MatAt G F' H' O' l ls rows where
  at_ := s.frame _ _ m.at_ m.no
  un := free_of s m.un m.at_ m.no
  no := not_owns_of s m.at_ m.no
  out := m.out
  nd := m.nd
  len := m.len
  row := fun j a row h1 h2 => by
    obtain ⟨vs, q1, q2, q3, q4⟩ := m.row j a row h1 h2
    exact ⟨vs, s.frame _ _ q1 q3, free_of s q2 q1 q3, not_owns_of s q1 q3, IsAll.mono s.fsub row q4⟩
theorem Rel.setMat (r : Rel G F σ H cs) (m : MatAt G F H (Owns cs) l ls rows) : Rel G F (σ.set i (some (.ref l))) H (cs.set i (.mat l ls rows)) where
  sub := r.sub
  len := by rw [List.length_set, List.length_set]; exact r.len
  inj := fun l' a b c1 d1 h1 h2 e1 e2 => by
    have un : ∀ {z : Addr}, Has (.mat l ls rows) z → ¬ Owns cs z := fun {z} h => by
      rcases h with rfl | h
      · exact m.no
      · obtain ⟨_, _, _, q⟩ := m.rowOf h
        exact q
    rcases get_set h1 with ⟨ea, z, _⟩ | ⟨ea, h1⟩
    · rcases get_set h2 with ⟨eb, z2, _⟩ | ⟨eb, h2⟩
      · omega
      · rw [z] at e1
        exact absurd ⟨b, d1, h2, e2⟩ (un e1)
    · rcases get_set h2 with ⟨_, z, _⟩ | ⟨_, h2⟩
      · rw [z] at e2
        exact absurd ⟨a, c1, h1, e1⟩ (un e2)
      · exact r.inj l' a b c1 d1 h1 h2 e1 e2
  cel := fun j c e => by
    rcases get_set e with ⟨rfl, rfl, hi⟩ | ⟨n, e⟩
    · refine ⟨_, by rw [List.getElem?_set_self (by rw [r.len]; exact hi)], rfl, m.at_, m.un, m.out, m.nd, m.len, fun j a row h1 h2 => ?_⟩
      obtain ⟨vs, q1, q2, q3, q4⟩ := m.row j a row h1 h2
      exact ⟨vs, q1, q2, q4⟩
    · obtain ⟨o, e1, q1⟩ := r.cel j c e
      exact ⟨o, by rw [List.getElem?_set_ne n]; exact e1, q1⟩
theorem Rel.mat (r : Rel G F σ H cs) (e : cs[i]? = some (.mat l ls rows)) : σ[i]? = some (some (.ref l)) ∧ H l = some (.lst (ls.map .ref)) ∧ F l = none ∧ l ∉ ls ∧ ls.Nodup ∧ ls.length = rows.length ∧ ∀ (j : Nat) (a : Addr) (row : List D), ls[j]? = some a → rows[j]? = some row → ∃ vs, H a = some (.lst vs) ∧ F a = none ∧ IsAll G F row vs := by
  obtain ⟨o, e1, rfl, q⟩ := r.cel i _ e
  exact ⟨e1, q⟩
/-- an item of a row is written -/
theorem Rel.putMat (r : Rel G F σ H cs) {j : Nat} {a : Addr} {row : List D} {ws : List V} (e : cs[i]? = some (.mat l ls rows)) (ha : ls[j]? = some a) (q : IsAll G F row ws) : Rel G F σ (upd H a (.lst ws)) (cs.set i (.mat l ls (rows.set j row))) ∧ Stp F H (Owns cs) F (upd H a (.lst ws)) (Owns (cs.set i (.mat l ls (rows.set j row)))) := by
  obtain ⟨hs, h1, h2, h3, h4, h5, h6⟩ := r.mat e
  have hm : a ∈ ls := List.mem_of_getElem? ha
  have hja := (List.getElem?_eq_some_iff.mp ha).1
  obtain ⟨vs0, b1, b2, _⟩ := h6 j a (rows[j]'(by omega)) ha (List.getElem?_eq_getElem (by omega))
  have la : l ≠ a := fun z => h3 (z ▸ hm)
  have same : ∀ z, Has (.mat l ls (rows.set j row)) z ↔ Has (.mat l ls rows) z := fun z => Iff.rfl
  have un : ∀ {k : Nat} {c1 : Cell} {z : Addr}, (cs.set i (.mat l ls (rows.set j row)))[k]? = some c1 → Has c1 z → ∃ c2, cs[k]? = some c2 ∧ Has c2 z := fun {k c1 z} h he => by
    rcases get_set h with ⟨rfl, q, _⟩ | ⟨_, h⟩
    · rw [q] at he; exact ⟨_, e, he⟩
    · exact ⟨_, h, he⟩
  refine ⟨⟨fun b o h => ?_, by rw [List.length_set]; exact r.len, fun k c1 e' => ?_, fun l' x y c1 d1 g1 g2 e1 e2 => ?_⟩, ⟨Same.refl F, fun b o h n => ?_, fun _ _ h => .inl h, fun b ⟨k, c1, z1, z2⟩ => ?_, fun b h => ?_⟩⟩
  · rw [upd_ne (fun z => by rw [z, b2] at h; cases h)]
    exact r.sub b o h
  · rcases get_set e' with ⟨rfl, rfl, hi⟩ | ⟨n, e2⟩
    · refine ⟨_, hs, rfl, by rw [upd_ne la]; exact h1, h2, h3, h4, by rw [List.length_set]; exact h5, fun k b rw' g1 g2 => ?_⟩
      by_cases ekj : j = k
      · subst ekj
        rw [ha] at g1
        cases g1
        rw [List.getElem?_set_self (by omega)] at g2
        cases g2
        exact ⟨ws, upd_same, b2, q⟩
      · rw [List.getElem?_set_ne ekj] at g2
        obtain ⟨vs, q1, q2, q3⟩ := h6 k b rw' g1 g2
        have : b ≠ a := fun z => by
          subst z
          obtain ⟨x1, y1⟩ := List.getElem?_eq_some_iff.mp ha
          obtain ⟨x2, y2⟩ := List.getElem?_eq_some_iff.mp g1
          exact ekj ((List.getElem_inj h4).mp (y1.trans y2.symm))
        exact ⟨vs, by rw [upd_ne this]; exact q1, q2, q3⟩
    · obtain ⟨o, e1, q1⟩ := r.cel k c1 e2
      refine ⟨o, e1, q1.mono (Same.refl F) fun l' u' ho a1 a2 => ⟨?_, a2⟩⟩
      have : l' ≠ a := fun z => n (by subst z; exact r.inj _ _ _ _ _ e e2 (.inr hm) ho)
      rw [upd_ne this]
      exact a1
  · obtain ⟨_, g1, e1⟩ := un g1 e1
    obtain ⟨_, g2, e2⟩ := un g2 e2
    exact r.inj l' x y _ _ g1 g2 e1 e2
  · rw [upd_ne (fun z => n (by rw [z]; exact ⟨i, _, e, .inr hm⟩))]
    exact h
  · obtain ⟨c2, g1, g2⟩ := un z1 z2
    exact .inl ⟨k, c2, g1, g2⟩
  · by_cases z : b = a
    · rw [z, upd_same] at h; cases h
    · rw [upd_ne z] at h; exact h
/-- it becomes a value -/
theorem Rel.knowMat (r : Rel G F σ H cs) (e : cs[i]? = some (.mat l ls rows)) : ∃ F', Rel G F' σ H (cs.set i (.val (.lst (rows.map .lst)))) ∧ Stp F H (Owns cs) F' H (Owns (cs.set i (.val (.lst (rows.map .lst))))) ∧ Is G F' (.lst (rows.map .lst)) (.ref l) := by
  classical
  obtain ⟨hs, h1, h2, h3, h4, h5, h6⟩ := r.mat e
  have hrow : ∀ a ∈ ls, F a = none ∧ ∃ vs, H a = some (.lst vs) := fun a ha => by
    obtain ⟨j, hj⟩ := List.getElem?_of_mem ha
    have hlt : j < rows.length := by rw [← h5]; exact (List.getElem?_eq_some_iff.mp hj).1
    obtain ⟨vs, q1, q2, _⟩ := h6 j a rows[j] hj (List.getElem?_eq_getElem hlt)
    exact ⟨q2, vs, q1⟩
  let F' : Hp := fun a => if a = l ∨ a ∈ ls then H a else F a
  have up : Same F F' := fun a o h => by
    show (if a = l ∨ a ∈ ls then H a else F a) = some o
    rw [if_neg]
    · exact h
    · rintro (z | z)
      · rw [z, h2] at h; cases h
      · rw [(hrow a z).1] at h; cases h
  have at1 : ∀ a, a = l ∨ a ∈ ls → F' a = H a := fun a h => if_pos h
  have at2 : ∀ a, ¬ (a = l ∨ a ∈ ls) → F' a = F a := fun a h => if_neg h
  have isl : Is G F' (.lst (rows.map .lst)) (.ref l) := by
    refine ⟨l, ls.map .ref, rfl, by rw [at1 l (.inl rfl)]; exact h1, ?_⟩
    have key : ∀ (n : Nat) (as : List Addr) (rs : List (List D)), as.length = n → rs.length = n → (∀ (j : Nat) (a : Addr) (row : List D), as[j]? = some a → rs[j]? = some row → a ∈ ls ∧ ∃ vs, H a = some (.lst vs) ∧ IsAll G F row vs) → IsAll G F' (rs.map .lst) (as.map .ref) := by
      intro n
      induction n with
      | zero =>
        intro as rs ha hr _
        rw [List.length_eq_zero_iff.mp ha, List.length_eq_zero_iff.mp hr]
        rfl
      | succ n ih =>
        intro as rs ha hr hq
        cases as with
        | nil => cases ha
        | cons a as =>
          cases rs with
          | nil => cases hr
          | cons row rs =>
            obtain ⟨hm, vs, q1, q2⟩ := hq 0 a row rfl rfl
            refine ⟨_, _, rfl, ⟨a, vs, rfl, by rw [at1 a (.inr hm)]; exact q1, IsAll.mono up row q2⟩, ih as rs (by simpa using ha) (by simpa using hr) fun j b rw' g1 g2 => hq (j + 1) b rw' g1 g2⟩
    exact key ls.length ls rows rfl h5.symm fun j a row g1 g2 => by
      obtain ⟨vs, q1, q2, q3⟩ := h6 j a row g1 g2
      exact ⟨List.mem_of_getElem? g1, vs, q1, q3⟩
  refine ⟨F', ⟨fun a o h => ?_, by rw [List.length_set]; exact r.len, fun j c1 e' => ?_, inj_free (fun _ h => h) r⟩, ⟨up, fun _ _ h _ => h, fun a o h => ?_, fun a h => ?_, fun _ h => h⟩, isl⟩
  · by_cases z : a = l ∨ a ∈ ls
    · rw [at1 a z] at h; exact h
    · rw [at2 a z] at h; exact r.sub a o h
  · rcases get_set e' with ⟨rfl, rfl, hi⟩ | ⟨n, e2⟩
    · exact ⟨_, hs, _, rfl, isl⟩
    · obtain ⟨o, e1, q1⟩ := r.cel j c1 e2
      refine ⟨o, e1, q1.mono up fun l' u2 ho a1 a2 => ⟨a1, ?_⟩⟩
      rw [at2 l' fun z => n (r.inj _ _ _ _ _ e e2 z ho)]
      exact a2
  · by_cases z : a = l ∨ a ∈ ls
    · exact .inr (.inr ⟨i, _, e, z⟩)
    · rw [at2 a z] at h; exact .inl h
  · rcases h.set with z | z
    · exact .inl z
    · cases z
end
section
variable {X : Cx} {G : Gx} {e elt tg iter a b : Expr} {pos p1 np sp : Pos} {cs cs1 cs2 cs3 : List Cell} {d x z : D} {row : List D} {rows : List (List D)} {l : Addr} {ls : List Addr} {P : Post} {scope : Scope} {n : Str}
theorem evm_pure {α : Type} {own : List (Str × Nat)} (xs : List α) (enc : α → D) (g : α → List D) (hi : EvI G (rdI X tg iter) cs (xs.map enc) cs1) (hz : xs.length < 10000000)
    (hs : ∀ x ∈ xs, ∃ cs3 tl, (∀ j ∈ tl, j ∈ own.map (·.2)) ∧ (∀ s H C cl fp, EvG G (rdG (Bk X scope s H C cl fp) tg) tl (enc x) (wipeC cs1 (own.map (·.2))) cs3) ∧ (∀ s H C cl fp, EvN G (rdE (Bk X scope s H C cl fp) elt) cs3 (g x) cs3) ∧ restC cs1 cs3 (own.map (·.2)) = cs1) :
    EvM G (tLc (rdI X tg iter) (gU X scope tg) (tU X scope []) (eU X scope elt) (own.map (·.2))) cs (xs.map g) cs1 := fun F σ H Q rl q => by
  refine hi F σ H _ rl fun J F1 H1 st1 r1 it Dl hD => ?_
  have g0 := grow_new (o := .lst []) r1.sub hD
  have hF : F1 Dl = none := by
    cases e : F1 Dl with
    | none => rfl
    | some u => rw [r1.sub Dl u e] at hD; cases hD
  have hH : H Dl = none := st1.back Dl hD
  refine ⟨fun i m H2 => m = xs.length - i ∧ i ≤ xs.length ∧ ∃ F2 ls, Rel G F2 σ H2 cs1 ∧ Stp F1 (upd H1 Dl (.lst [])) (fun a => Owns cs1 a ∨ a = Dl) F2 H2 (fun a => Owns cs1 a ∨ a = Dl) ∧ MatAt G F2 H2 (Owns cs1) Dl ls ((xs.take i).map g) ∧ ∀ a ∈ ls, upd H1 Dl (.lst []) a = none,
    ⟨xs.length, by simp, Nat.zero_le _, F1, [], r1.grow g0, .refl, ⟨upd_same, hF, r1.notOwns hD, by simp, by simp, by simp, by simp⟩, by simp⟩, ?_⟩
  rintro i m H2 ⟨rfl, hi2, F2, ls, r2, st2, mt, fr⟩
  obtain ⟨hgo, hstop⟩ := it F2 H2 st2.fsub r2.sub
  have stAll : Stp F H (Owns cs) F2 H2 (Owns cs1) := by
    refine ⟨st1.fsub.trans st2.fsub, fun a o e n => ?_, fun a o e => ?_, fun a e => ?_, fun a e => ?_⟩
    · have na : a ≠ Dl := fun z => by rw [z, hH] at e; cases e
      have e1 := st1.frame a o e n
      refine st2.frame a o (by rw [upd_ne na]; exact e1) fun z => ?_
      rcases z with z | z
      · rcases st1.own a z with y | y
        · exact n y
        · rw [y] at e; cases e
      · exact na z
    · rcases st2.fresh a o e with z | z | z | z
      · exact st1.fresh a o z
      · have na : a ≠ Dl := fun y => by rw [y, upd_same] at z; cases z
        rw [upd_ne na] at z
        exact .inr (.inl (st1.back a z))
      · rcases st1.own a z with y | y
        · exact .inr (.inr y)
        · exact .inr (.inl y)
      · rw [z, mt.un] at e; cases e
    · rcases st2.own a (.inl e) with (z | z) | z
      · exact st1.own a z
      · exact absurd (z ▸ e) mt.no
      · have na : a ≠ Dl := fun y => by rw [y, upd_same] at z; cases z
        rw [upd_ne na] at z
        exact .inr (st1.back a z)
    · have z := st2.back a e
      have na : a ≠ Dl := fun y => by rw [y, upd_same] at z; cases z
      rw [upd_ne na] at z
      exact st1.back a z
  by_cases hlt : i < xs.length
  · have hx0 : xs[i]? = some xs[i] := List.getElem?_eq_getElem hlt
    obtain ⟨go, yl⟩ := hgo i (enc xs[i]) (by rw [List.getElem?_map, hx0]; rfl)
    refine .inr ⟨go, fun H' => ∃ F2 ls, Rel G F2 σ H' cs1 ∧ Stp F1 (upd H1 Dl (.lst [])) (fun a => Owns cs1 a ∨ a = Dl) F2 H' (fun a => Owns cs1 a ∨ a = Dl) ∧ MatAt G F2 H' (Owns cs1) Dl ls ((xs.take (i + 1)).map g) ∧ ∀ a ∈ ls, upd H1 Dl (.lst []) a = none,
      fun H' z => ⟨xs.length - (i + 1), by omega, rfl, hlt, z⟩, fun x H3 y => ?_⟩
    obtain ⟨F3, gr, q3⟩ := yl x H3 y
    obtain ⟨cs3, tl, htl, hg, he, hre⟩ := hs xs[i] (List.getElem_mem hlt)
    have r3 := r2.grow gr
    obtain ⟨rw3, sw3⟩ := r3.wipe (own.map (·.2))
    intro sA HA CA clA fpA
    refine hg sA HA CA clA fpA F3 (L2.wipe σ (own.map (·.2))) H3 x _ rw3 q3 fun σ3 st3 r4 u3 => ?_
    have hl3 : σ3.length = σ.length := u3.1.trans (wipe_length σ _)
    have out : ∀ j, j ∉ own.map (·.2) → σ3[j]? = (L2.wipe σ (own.map (·.2)))[j]? := fun j hj => u3.2 j fun z => hj (htl j z)
    have outS : ∀ j, j ∉ own.map (·.2) → σ3[j]? = σ[j]? := fun j hj => (out j hj).trans (wipe_get σ _ j hj)
    refine ⟨wipe_same hl3 out, ?_⟩
    intro sB HB CB clB fpB
    refine ets_nil (G := G) (cs := cs3) F3 σ3 H3 _ r4 fun F4 H4 st4 r5 => ?_
    refine iteT ?_
    intro sC HC CC clC fpC
    refine he sC HC CC clC fpC F4 σ3 H4 _ r5 fun p vs F5 H5 st5 r6 p0 p1 p2 p3 p4 => ?_
    have s4 : Stp F2 H2 (Owns cs1) F4 H4 (Owns cs3) := ((gr.stp.trans sw3).trans st3).trans st4
    have s5 := s4.trans st5
    have s6 : Stp F2 H2 (Owns cs1) F5 H5 (Owns cs1) := by
      have := stp_sub s5 (O2 := Owns (restC cs1 cs3 (own.map (·.2)))) fun a => owns_rest
      rw [hre] at this
      exact this
    have r7 : Rel G F5 σ H5 cs1 := by
      have := r2.rest r6 s5.fsub hl3 outS
      rw [hre] at this
      exact this
    have m5 := mt.step s6
    have hp2 : H2 p = none := s4.back p p0
    have no1 : ¬ Owns cs1 p := fun z => p1 (owns_rest (cs2 := cs1) (vs := own.map (·.2)) (by rw [hre]; exact z))
    have nD : p ≠ Dl := fun z => by rw [z, mt.at_] at hp2; cases hp2
    have nls : p ∉ ls := fun z => by
      obtain ⟨vs, q1, _⟩ := mt.rowOf z
      rw [q1] at hp2; cases hp2
    have hlen : ls.length = i := by rw [mt.len, List.length_map, List.length_take]; omega
    refine ⟨ls.map .ref, m5.at_, by rw [List.length_map, hlen]; exact Nat.lt_trans (Nat.lt_trans hlt hz) (by decide), F5, ls ++ [p], r7.updFree m5.un m5.no, (st2.trans s6.plus).trans stp_wr, ?_, ?_⟩
    · have tk : (xs.take (i + 1)).map g = (xs.take i).map g ++ [g xs[i]] := by rw [List.take_add_one, hx0, List.map_append]; rfl
      rw [tk]
      refine ⟨by rw [upd_same, List.map_append]; rfl, m5.un, m5.no, ?_, ?_, by rw [List.length_append, List.length_append, m5.len]; rfl, fun j a row g1 g2 => ?_⟩
      · intro z
        rcases List.mem_append.mp z with z | z
        · exact m5.out z
        · exact nD (List.mem_singleton.mp z).symm
      · refine List.nodup_append.mpr ⟨m5.nd, by simp, fun a ha b hb => ?_⟩
        rw [List.mem_singleton.mp hb]
        exact fun z => nls (z ▸ ha)
      · have hml : ((xs.take i).map g).length = i := by rw [List.length_map, List.length_take]; omega
        by_cases hj : j < i
        · rw [List.getElem?_append_left (by omega)] at g1 g2
          obtain ⟨ws, q1, q2, q3, q4⟩ := m5.row j a row g1 g2
          have : a ≠ Dl := fun z => m5.out (z ▸ List.mem_of_getElem? g1)
          exact ⟨ws, by rw [upd_ne this]; exact q1, q2, q3, q4⟩
        · rw [List.getElem?_append_right (by omega)] at g1 g2
          have hj0 : j - ls.length = 0 := by
            have := (List.getElem?_eq_some_iff.mp g1).1
            simp at this
            omega
          have hj1 : j - ((xs.take i).map g).length = 0 := by omega
          rw [hj0] at g1
          rw [hj1] at g2
          cases g1
          cases g2
          exact ⟨vs, by rw [upd_ne nD]; exact p2, p3, no1, p4⟩
    · intro a ha
      rcases List.mem_append.mp ha with ha | ha
      · exact fr a ha
      · rw [List.mem_singleton.mp ha]
        exact st2.back p hp2
  · have e : i = xs.length := by omega
    subst e
    rw [List.take_length] at mt
    refine .inl ⟨by rw [List.length_map] at hstop; exact hstop, q Dl ls F2 H2 stAll r2 mt hH fun a ha => ?_⟩
    have z := fr a ha
    have na : a ≠ Dl := fun y => mt.out (y ▸ ha)
    rw [upd_ne na] at z
    exact st1.back a z
/-- name = [[..] for ..] on one line -/
theorem sx_setM (i : Nat) {own : List (Str × Nat)} {py spos : Pos} (h : EvM G (tLc (rdI X tg iter) (gU X scope tg) (tU X scope []) (eU X scope elt) (own.map (·.2))) cs rows cs1) (hp : ∀ l ls, P.nx (cs1.set i (.mat l ls rows))) (hc : X.calm = true) (hN : X.N.Nodup) (hy : X.N[i]? = some n) (hyl : X.env.scope.names.lookup n = some .local)
    (hsw : swapsWith (.ListComp elt [⟨tg, iter, [], 0⟩] scope pos) (some (.Name n py)) spos.line X.env = pure true) (ok : BlkOk X.N X.env.scope scope own) (hf : ∀ x, foldedSetIterable iter X.env x = pure x := by intro _; rfl) :
    Sx G (rdS X (.Assign [.Name n py] (.ListComp elt [⟨tg, iter, [], 0⟩] scope pos) spos)) cs P :=
  sx_of (ps_setLc (i := i) (g := gU X scope tg) (tt := tU X scope []) (te := eU X scope elt) hc hN hy hyl hsw pi_rd ok
    (fun s H0 C cl fp => ⟨fun pins t σ H v u Q J r h => h s H0 C cl fp pins t u J r⟩) (fun s H0 C cl fp => ⟨fun pins t σ H Q J h => h s H0 C cl fp pins t J⟩) (fun s H0 C cl fp => ⟨fun pins t σ H Q J h => h s H0 C cl fp pins t J⟩) hf) fun F σ H E rl k1 _ _ _ _ => h F σ H _ rl fun l ls F1 H1 st1 r1 m h0 h0s => by
    refine k1 _ _ F1 H1 (hp l ls) ⟨st1.fsub, st1.frame, st1.fresh, fun a z => ?_, st1.back⟩ (r1.setMat m)
    rcases z.set with z | z
    · exact st1.own a z
    · rcases z with rfl | z
      · exact .inr h0
      · exact .inr (h0s a z)
/-- m[a][b] -/
theorem ev_ixM (i : Nat) {ia ib : Int} {ja jb : Nat} (h0 : cs[i]? = some (.mat l ls rows)) (ha : Ev G (rdE X a) cs (.int ia) cs) (hb : Ev G (rdE X b) cs (.int ib) cs) (e1 : ixN rows.length ia = some ja) (hr : rows[ja]? = some row) (e2 : ixN row.length ib = some jb) (hz : row[jb]? = some z)
    (hN : X.N[i]? = some n) (hv : Vis X.env.scope n) (hs : PlainIx a := by exact fun _ _ => rfl) (hs2 : PlainIx b := by exact fun _ _ => rfl) (hd : (n == ("__debug__" : Str)) = false := by decide) (hcd : (n == ("__classdict__" : Str)) = false := by decide) :
    Ev G (rdE X (.Subscript (.Subscript (.Name n np) a p1) b pos)) cs z cs :=
  ev_of (pe_ix ix_list (pe_ix ix_list (pe_var (i := i) hN hv hd hcd) pe_rd hs) pe_rd hs2) fun F σ H Q rl q => by
    obtain ⟨s1, _⟩ := rl.mat h0
    refine ⟨_, s1, ha F σ H _ rl fun v F1 H1 st1 r1 q1 => ?_⟩
    cases q1
    obtain ⟨_, h1, h2, h3, h4, h5, h6⟩ := r1.mat h0
    have hja := (List.getElem?_eq_some_iff.mp hr).1
    have hla : ls[ja]? = some (ls[ja]'(by omega)) := List.getElem?_eq_getElem (by omega)
    refine ⟨l, ls.map .ref, ia, .ref (ls[ja]'(by omega)), rfl, rfl, SqL.of h1, by rw [atI_get (j := ja) (by rw [List.length_map, h5]; exact e1), List.getElem?_map, hla]; rfl, hb F1 σ H1 _ r1 fun v2 F2 H2 st2 r2 q2 => ?_⟩
    cases q2
    obtain ⟨_, g1, g2, g3, g4, g5, g6⟩ := r2.mat h0
    obtain ⟨vs, b1, b2, b3⟩ := g6 ja _ row hla hr
    obtain ⟨u, c1, c2⟩ := b3.get hz
    exact ⟨_, vs, ib, u, rfl, rfl, SqL.of b1, by rw [atI_get (j := jb) (by rw [b3.length]; exact e2)]; exact c1, q u F2 H2 (st1.trans st2) r2 c2⟩
/-- m[a][b] = e -/
theorem sx_setIxM (i : Nat) {ia ib : Int} {ja jb : Nat} (h0 : cs[i]? = some (.mat l ls rows)) (he : Ev G (rdE X e) cs d cs) (ha : Ev G (rdE X a) cs (.int ia) cs) (hb : Ev G (rdE X b) cs (.int ib) cs) (e1 : ixN rows.length ia = some ja) (hr : rows[ja]? = some row) (e2 : ixN row.length ib = some jb) (hp : P.nx (cs.set i (.mat l ls (rows.set ja (row.set jb d)))))
    (hN : X.N[i]? = some n) (hv : Vis X.env.scope n) (hs0 : PlainIx a := by exact fun _ _ => rfl) (hd : (n == ("__debug__" : Str)) = false := by decide) (hcd : (n == ("__classdict__" : Str)) = false := by decide)
    (hs : swapsWithSole [.Subscript (.Subscript (.Name n np) a p1) b sp] e pos.line X.env = pure false := by rfl) (hw : swappedStores [.Subscript (.Subscript (.Name n np) a p1) b sp] e X.env = pure none := by rfl) (h1' : (assignEach [.Subscript (.Subscript (.Name n np) a p1) b sp] X.env).map (·.2) = [assign (.Subscript (.Subscript (.Name n np) a p1) b sp) X.env] := by rfl)
    (hg : ∀ v, assign (.Subscript (.Subscript (.Name n np) a p1) b sp) X.env v = (do
      let ov ← holding [v] (eval (.Subscript (.Name n np) a p1) X.env)
      let iv ← holding [v, ov] (eval b X.env)
      standAt sp
      holding [v, ov, iv] (setItem ov iv v)
      release [v, ov, iv] []) := by intro _; rfl) :
    Sx G (rdS X (.Assign [.Subscript (.Subscript (.Name n np) a p1) b sp] e pos)) cs P :=
  sx_of (ps_asg pe_rd (pg_sub (pe_ix ix_list (pe_var (i := i) hN hv hd hcd) pe_rd hs0) pe_rd set_list hg) hs hw h1') fun F σ H E rl k1 _ _ _ _ => he F σ H _ rl fun v F0 H0 st0 r0 q0 => by
    obtain ⟨s1, _⟩ := r0.mat h0
    refine ⟨_, s1, ha F0 σ H0 _ r0 fun v F1 H1 st1 r1 q1 => ?_⟩
    cases q1
    obtain ⟨_, h1, h2, h3, h4, h5, h6⟩ := r1.mat h0
    have hja := (List.getElem?_eq_some_iff.mp hr).1
    have hla : ls[ja]? = some (ls[ja]'(by omega)) := List.getElem?_eq_getElem (by omega)
    refine ⟨l, ls.map .ref, ia, .ref (ls[ja]'(by omega)), rfl, rfl, SqL.of h1, by rw [atI_get (j := ja) (by rw [List.length_map, h5]; exact e1), List.getElem?_map, hla]; rfl, hb F1 σ H1 _ r1 fun v2 F2 H2 st2 r2 q2 => ?_⟩
    cases q2
    obtain ⟨_, g1, g2, g3, g4, g5, g6⟩ := r2.mat h0
    obtain ⟨vs, b1, b2, b3⟩ := g6 ja _ row hla hr
    obtain ⟨rp, sp'⟩ := r2.putMat h0 hla (b3.set jb (Is.mono (st1.fsub.trans st2.fsub) d q0))
    exact ⟨_, vs, ib, jb, rfl, rfl, b1, by rw [b3.length]; exact e2, k1 _ σ F2 _ hp (((st0.trans st1).trans st2).trans sp') rp⟩
theorem sx_frzM {ts : TS} (i : Nat) (h : cs[i]? = some (.mat l ls rows)) (q : Sx G ts (cs.set i (.val (.lst (rows.map .lst)))) P) : Sx G ts cs P := fun F σ H E rl k1 k2 k3 k4 k5 => by
  obtain ⟨F', r', st, _⟩ := rl.knowMat h
  exact q _ σ H E r' (k1.after st) (k2.after st) (k3.after st) (k4.after st) (k5.after st)
end
end Fx

/-! Values that are told by what is known of them alone. -/
namespace Fx
open PySem PyProof PyProof.Rows L2
section
variable {X : Cx} {G : Gx} {e a b c elt tg iter : Expr} {es ifs : List Expr} {pos np : Pos} {cs cs' cs1 cs2 : List Cell} {d x z : D} {ds xs : List D} {k : Bool} {l : Addr} {P : Post} {scope : Scope} {n : Str} {R : D → List Cell → Prop} {RN : List D → List Cell → Prop}
theorem ev_lenScr {ns : List Int} {p : Pos} (ha : Ev G (rdE X e) cs (.scr ns) cs1) (hm : X.mg "len" = none) (hg : Gl X "len") (hK : G.K = X.K := by rfl) (hs : starEach [e] X.env = (false, eval e X.env) :: starEach [] X.env := by rfl) :
    Ev G (rdE X (.Call (.Name "len" p) [e] [] pos)) cs (.int (ns.length : Int)) cs1 :=
  ev_callB call_len_seq (fun F H vs Q sm h q => by
    obtain ⟨v, r, rfl, ⟨a, rfl, h1⟩, h2⟩ := h
    cases h2
    refine ⟨a, _, rfl, .inl (by rw [← hK]; exact same_l sm h1), ?_⟩
    rw [List.length_map]
    exact q _ F H (.refl sm) rfl) (evv_cons ha evv_nil hs) hg hm boot_len (by decide) (by decide) hs (by rfl)
theorem ei_is {its its' : List D} (h : EvI G (rdI X tg iter) cs its cs1) (e : its = its') : EvI G (rdI X tg iter) cs its' cs1 := e ▸ h
theorem ints_vals {F : Hp} : ∀ {ns : List Int} {vs : List V}, IsAll G F (ns.map D.int) vs → vs = ns.map V.int
  | [], _, h => h
  | y :: ys, _, h => by
    obtain ⟨v, r, rfl, h1, h2⟩ := h
    cases h1
    rw [ints_vals h2]; rfl
theorem inV_ints (i : Int) : ∀ ns : List Int, inV (.int i) (ns.map V.int) = ns.any fun y => y == i
  | [] => rfl
  | y :: ns => by
    show (eqV (.int y) (.int i) || inV (.int i) (ns.map V.int)) = _
    rw [inV_ints i ns]; rfl
theorem flat_ints : ∀ ns : List Int, (ns.map V.int).all flatV = true
  | [] => rfl
  | y :: ns => by
    rw [List.map_cons, List.all_cons, flat_ints ns]; rfl
theorem c_inTi {ns : List Int} {i : Int} (hK : G.K = X.K := by rfl) : CmpJ G X .In (.int i) (.tup (ns.map .int)) (ns.any fun y => y == i) := ⟨_, op_in_seq, fun F H v w Q sm h1 h2 q => by
  cases h1
  obtain ⟨a, vs, rfl, h3, h4⟩ := h2
  rw [ints_vals h4] at h3
  rw [hK] at h3
  refine ⟨a, _, rfl, .inr (same_t sm h3), rfl, flat_ints ns, ?_⟩
  show Q (.bl (inV (.int i) (ns.map V.int))) H
  rw [inV_ints]
  exact q _ F H (.refl sm) rfl⟩
theorem sx_cut {st : Stmt} {sts : List Stmt} (K : List Cell → Prop) (h : Sx G (rdS X st) cs { P with nx := K }) (k : ∀ cs', K cs' → Sx G (rdSs X sts) cs' P) : Sx G (rdSs X (st :: sts)) cs P :=
  sx_cons (sx_post h k (fun _ _ h => h) (fun _ _ h => h) (fun _ h => h) (fun _ h => h))
/-- a, b = two values, both names local -/
theorem sx_parVV (i j : Nat) {n m : Str} {y : D} {px py pt : Pos} {kt k2 pt2} (ha : Ev G (rdE X a) cs x cs1) (hb : Ev G (rdE X b) cs1 y cs2) (hp : P.nx ((cs2.set i (.val x)).set j (.val y)))
    (hpar : ∀ {ta : TA}, PA X [a, b] ta → PS X (.Assign [.Tuple [.Name n px, .Name m py] kt pt] (.Tuple [a, b] k2 pt2) pos) (tPar i j ta)) (hs : starEach [a, b] X.env = (false, eval a X.env) :: starEach [b] X.env := by rfl) (hs2 : starEach [b] X.env = (false, eval b X.env) :: starEach [] X.env := by rfl) :
    Sx G (rdS X (.Assign [.Tuple [.Name n px, .Name m py] kt pt] (.Tuple [a, b] k2 pt2) pos)) cs P :=
  sx_of (hpar (pa_cons pe_rd (pa_cons pe_rd pa_nil hs2) hs)) fun F σ H E rl k1 _ _ _ _ => ha F σ H _ rl fun v F1 H1 st1 r1 q1 => hb F1 σ H1 _ r1 fun v' F2 H2 st2 r2 q2 =>
    ⟨v, v', rfl, k1 _ _ F2 H2 hp (((st1.trans st2).trans (Rel.stp_val i x)).trans (Rel.stp_val j y)) ((r2.setVal (Is.mono st2.fsub x q1)).setVal q2)⟩
theorem evr_of {te : TE} (h : PE X e te) (q : EvR G te cs R) : EvR G (rdE X e) cs R := fun F σ H Q rl kk pins s I => h.run pins s σ H Q I (q F σ H Q rl kk)
theorem evnr_of {te : TE} (h : PE X e te) (q : EvNR G te cs RN) : EvNR G (rdE X e) cs RN := fun F σ H Q rl kk pins s I => h.run pins s σ H Q I (q F σ H Q rl kk)
theorem evr_ev {te : TE} (h : Ev G te cs d cs1) (hR : R d cs1) : EvR G te cs R := fun F σ H Q rl q => h F σ H Q rl fun v F' H' st r i => q d cs1 v F' H' hR st r i
theorem evnr_evn {te : TE} (h : EvN G te cs ds cs1) (hR : RN ds cs1) : EvNR G te cs RN := fun F σ H Q rl q => h F σ H Q rl fun p vs F' H' st r h0 h1 h2 h3 h4 => q ds cs1 p vs F' H' hR st r h0 h1 h2 h3 h4
theorem EvR.mono {te : TE} {R' : D → List Cell → Prop} (h : EvR G te cs R) (hR : ∀ d c, R d c → R' d c) : EvR G te cs R' := fun F σ H Q rl q => h F σ H Q rl fun d cs' v F' H' r => q d cs' v F' H' (hR d cs' r)
/-- a new list as a value -/
theorem EvNR.evr {te : TE} (h : EvNR G te cs RN) (hR : ∀ ds c, RN ds c → R (.lst ds) c) : EvR G te cs R := fun F σ H Q rl q => h F σ H Q rl fun ds cs' p vs F' H' r st rl' h0 h1 h2 h3 h4 => by
  have up : Same F' (upd F' p (.lst vs)) := fun a o h => by rw [upd_ne (ne_of_none h h3)]; exact h
  refine q (.lst ds) cs' (.ref p) (upd F' p (.lst vs)) H' (hR ds cs' r) ⟨st.fsub.trans up, st.frame, fun a o e => ?_, st.own, st.back⟩ ⟨fun a o e => ?_, rl'.len, fun i c e => ?_, rl'.inj⟩ ⟨p, vs, rfl, upd_same, IsAll.mono up ds h4⟩
  · by_cases z : a = p
    · rw [z]; exact .inr (.inl h0)
    · rw [upd_ne z] at e; exact st.fresh a o e
  · by_cases z : a = p
    · rw [z, upd_same] at e; cases e; rw [z]; exact h2
    · rw [upd_ne z] at e; exact rl'.sub a o e
  · obtain ⟨o, e1, q1⟩ := rl'.cel i c e
    refine ⟨o, e1, q1.mono up fun l' u ho a1 a2 => ⟨a1, ?_⟩⟩
    have : l' ≠ p := fun z => h1 (by rw [← z]; exact ⟨i, c, e, ho⟩)
    rw [upd_ne this]
    exact a2
theorem evr_if (h : EvT G (rdT X c) cs k cs1) (h1 : k = true → EvR G (rdE X a) cs1 R) (h2 : k = false → EvR G (rdE X b) cs1 R) : EvR G (rdE X (.IfExp c a b pos)) cs R :=
  evr_of (pe_ifExp pt_rd pe_rd pe_rd) fun F σ H Q rl q => h F σ H _ rl fun F1 H1 st r1 => by
    cases k with
    | true => exact iteT (h1 rfl F1 σ H1 Q r1 fun d cs' v F2 H2 hR st2 => q d cs' v F2 H2 hR (st.trans st2))
    | false => exact iteF (h2 rfl F1 σ H1 Q r1 fun d cs' v F2 H2 hR st2 => q d cs' v F2 H2 hR (st.trans st2))
/-- list + list -/
theorem evnr_add {RA : List D → List Cell → Prop} (ha : EvR G (rdE X a) cs fun d c => ∃ xs, d = .lst xs ∧ RA xs c) (hb : ∀ xs c, RA xs c → EvR G (rdE X b) c fun d c' => ∃ ys, d = .lst ys ∧ xs.length + ys.length ≤ 10000000 ∧ RN (xs ++ ys) c') : EvNR G (rdE X (.BinOp a .Add b pos)) cs RN :=
  evnr_of (pe_op op_cat pe_rd pe_rd) fun F σ H Q rl q => ha F σ H _ rl fun d c v F1 H1 ⟨xs, ed, hA⟩ st1 r1 q1 => by
    subst ed
    refine hb xs c hA F1 σ H1 _ r1 fun d2 c' v2 F2 H2 ⟨ys, ed, hz, hR⟩ st2 r2 q2 => ?_
    subst ed
    obtain ⟨p1, u1, rfl, g1, g2⟩ := q1
    obtain ⟨p2, u2, rfl, g3, g4⟩ := q2
    have e1 := st2.fsub _ _ g1
    refine ⟨p1, p2, u1, u2, rfl, rfl, r2.sub _ _ e1, r2.sub _ _ g3, by rw [g2.length, g4.length, sizeLine_eq]; omega, fun p hp => ?_⟩
    exact evn_new (st1.trans st2) rl r2 (fun p vs F' H' st r h0 h1 h2 h3 h4 => q (xs ++ ys) c' p vs F' H' hR st r h0 h1 h2 h3 h4) p _ hp ((IsAll.mono st2.fsub xs g2).append g4)
theorem evnr_lc {own : List (Str × Nat)} (h : EvNR G (tLc (rdI X tg iter) (gU X scope tg) (tU X scope ifs) (eU X scope elt) (own.map (·.2))) cs RN) (hc : X.calm = true) (hN : X.N.Nodup) (ok : BlkOk X.N X.env.scope scope own) (hf : ∀ x, foldedSetIterable iter X.env x = pure x := by intro _; rfl) :
    EvNR G (rdE X (.ListComp elt [⟨tg, iter, ifs, 0⟩] scope pos)) cs RN :=
  evnr_of (pe_lc (g := gU X scope tg) (tt := tU X scope ifs) (te := eU X scope elt) hc hN pi_rd ok
    (fun s H0 C cl fp => ⟨fun pins t σ H v u Q J r h => h s H0 C cl fp pins t u J r⟩) (fun s H0 C cl fp => ⟨fun pins t σ H Q J h => h s H0 C cl fp pins t J⟩) (fun s H0 C cl fp => ⟨fun pins t σ H Q J h => h s H0 C cl fp pins t J⟩) hf) h
/-! ### statements -/
theorem sx_setLcR (i : Nat) {own : List (Str × Nat)} {py spos : Pos} (h : EvNR G (tLc (rdI X tg iter) (gU X scope tg) (tU X scope ifs) (eU X scope elt) (own.map (·.2))) cs RN) (hp : ∀ ds cs1 l, RN ds cs1 → P.nx (cs1.set i (.own l ds))) (hc : X.calm = true) (hN : X.N.Nodup) (hy : X.N[i]? = some n) (hyl : X.env.scope.names.lookup n = some .local)
    (hsw : swapsWith (.ListComp elt [⟨tg, iter, ifs, 0⟩] scope pos) (some (.Name n py)) spos.line X.env = pure true) (ok : BlkOk X.N X.env.scope scope own) (hf : ∀ x, foldedSetIterable iter X.env x = pure x := by intro _; rfl) :
    Sx G (rdS X (.Assign [.Name n py] (.ListComp elt [⟨tg, iter, ifs, 0⟩] scope pos) spos)) cs P :=
  sx_of (ps_setLc (i := i) (g := gU X scope tg) (tt := tU X scope ifs) (te := eU X scope elt) hc hN hy hyl hsw pi_rd ok
    (fun s H0 C cl fp => ⟨fun pins t σ H v u Q J r h => h s H0 C cl fp pins t u J r⟩) (fun s H0 C cl fp => ⟨fun pins t σ H Q J h => h s H0 C cl fp pins t J⟩) (fun s H0 C cl fp => ⟨fun pins t σ H Q J h => h s H0 C cl fp pins t J⟩) hf) fun F σ H E rl k1 _ _ _ _ => h F σ H _ rl fun ds cs1 p vs F1 H1 hR st1 r1 q0 q1 q2 q3 q4 => by
    obtain ⟨st2, r2⟩ := set_own (i := i) st1 r1 q0 q1 q2 q3 q4
    exact k1 _ _ F1 H1 (hp ds cs1 p hR) st2 r2
theorem sx_setR (i : Nat) (h : EvR G (rdE X e) cs R) (hp : ∀ d cs1, R d cs1 → P.nx (cs1.set i (.val d))) (hN : X.N.Nodup) (hi : X.N[i]? = some n) (hx : Loc X.env.scope n) (hf : X.fn n = true ∨ X.env.scope.names.lookup n = some .local) (hs : swapsWith e (some (.Name n np)) pos.line X.env = pure false := by rfl) :
    Sx G (rdS X (.Assign [.Name n np] e pos)) cs P :=
  sx_of (ps_set (i := i) hN hi hx pe_rd hs hf) fun F σ H E rl k1 _ _ _ _ => h F σ H _ rl fun d cs1 v F1 H1 hR st1 r1 q1 => k1 _ _ F1 H1 (hp d cs1 hR) (st1.trans (Rel.stp_val i d)) (r1.setVal q1)
theorem sx_setNR (i : Nat) (h : EvNR G (rdE X e) cs RN) (hp : ∀ ds cs1 l, RN ds cs1 → P.nx (cs1.set i (.own l ds))) (hN : X.N.Nodup) (hi : X.N[i]? = some n) (hx : Loc X.env.scope n) (hf : X.fn n = true ∨ X.env.scope.names.lookup n = some .local) (hs : swapsWith e (some (.Name n np)) pos.line X.env = pure false := by rfl) :
    Sx G (rdS X (.Assign [.Name n np] e pos)) cs P :=
  sx_of (ps_set (i := i) hN hi hx pe_rd hs hf) fun F σ H E rl k1 _ _ _ _ => h F σ H _ rl fun ds cs1 p vs F1 H1 hR st1 r1 q0 q1 q2 q3 q4 => by
    obtain ⟨st2, r2⟩ := set_own (i := i) st1 r1 q0 q1 q2 q3 q4
    exact k1 _ _ F1 H1 (hp ds cs1 p hR) st2 r2
theorem sx_asgR (h : EvR G (rdE X e) cs R) (hg : ∀ d cs1, R d cs1 → ∃ cs2 tl, EvG G (rdG X tg) tl d cs1 cs2 ∧ P.nx cs2) (hs : swapsWithSole [tg] e pos.line X.env = pure false := by rfl) (hw : swappedStores [tg] e X.env = pure none := by rfl)
    (h1 : (assignEach [tg] X.env).map (·.2) = [assign tg X.env] := by rfl) : Sx G (rdS X (.Assign [tg] e pos)) cs P :=
  sx_of (ps_asg pe_rd pg_rd hs hw h1) fun F σ H E rl k1 _ _ _ _ => h F σ H _ rl fun d cs1 v F1 H1 hR st1 r1 q1 => by
    obtain ⟨cs2, tl, g, hp⟩ := hg d cs1 hR
    exact g F1 σ H1 v _ r1 q1 fun σ' st2 r2 _ => k1 cs2 σ' F1 H1 hp (st1.trans st2) r2
theorem sx_retR (h : EvR G (rdE X e) cs R) (hp : ∀ d cs1, R d cs1 → P.rt d cs1) : Sx G (rdS X (.Return (some e) pos)) cs P :=
  sx_of (ps_ret pe_rd) fun F σ H E rl _ k2 _ _ _ => h F σ H _ rl fun d cs1 v F1 H1 hR st1 r1 q1 => k2 d cs1 σ F1 H1 v (hp d cs1 hR) st1 r1 q1
theorem sx_exprR (h : EvR G (rdE X e) cs R) (hp : ∀ d cs1, R d cs1 → P.nx cs1) (hs : swapsWith e none pos.line X.env = pure false := by rfl) : Sx G (rdS X (.Expr e pos)) cs P :=
  sx_of (ps_expr pe_rd hs) fun F σ H E rl k1 _ _ _ _ => h F σ H _ rl fun d cs1 v F1 H1 hR st1 r1 _ => k1 cs1 σ F1 H1 (hp d cs1 hR) st1 r1
end

/-! ### defs -/
/-- a def whose first argument is a list that it changes: C what it needs, R what it leaves -/
def sp1R (G : Gx) (C : List D → List D → Prop) (R : List D → List D → D → List D → Prop) : Sp := fun vs H Q _ => ∃ F l pv us ps ds, Same F H ∧ vs = .ref l :: us ∧ H l = some (.lst pv) ∧ F l = none ∧ IsAll G F ps pv ∧ IsAll G F ds us ∧ C ps ds ∧ ∀ d ps', R ps ds d ps' → RetP G F H l (.val d) ps' Q
def Fn1R (G : Gx) (P : Program) (w : World) (mg : Str → Option Value) (base : Heap) (k : Nat) (n : Str) (C : List D → List D → Prop) (R : List D → List D → D → List D → Prop) : Prop := ∃ f, mg n = some (.ref f) ∧ PySem.W.keepIn G.K (.ref f) = true ∧ FnR P w G.K mg base CX0 k f (sp1R G C R)
section
variable {P : Program} {w : World} {G : Gx} {mg : Str → Option Value} {base : Heap} {x qual : Str} {st : Stmt} {f : Addr} {fd : FuncData} {N ps : List Str} {k : Nat}
theorem fn1R {C : List D → List D → Prop} {R : List D → List D → D → List D → Prop} (F : L2.Fun G.K x qual st f fd) (S : FnScope N ps (defScope st)) (hb : Binds G.K fd ps []) (hl : ∀ qs ds, C qs ds → ds.length + 1 = ps.length) (hN : ps.length ≤ N.length)
    (body : ∀ cdv A outer s H E, Room k (cx0 P w G.K mg base N qual st f cdv A outer s H E).A → ∀ l qs ds, C qs ds → Sx G (rdSs (cx0 P w G.K mg base N qual st f cdv A outer s H E) (defBody st)) (.own l qs :: (vals ds ++ nos (N.length - ps.length))) { nx := fun _ => False, rt := fun d cs => ∃ qs', R qs ds d qs' ∧ cs[0]? = some (.own l qs') }) :
    FnR P w G.K mg base CX0 (k + 1) f (sp1R G C R) := by
  have hlen : ∀ vs H Q E, sp1R G C R vs H Q E → vs.length = ps.length := fun vs H Q E ⟨F, l, pv, us, qs, ds, _, e, _, _, _, h, c, _⟩ => by rw [e, List.length_cons, h.length]; exact hl _ _ c
  have K1 : FnOk P w G.K mg base CX0 (k + 1) f fd ps (sp1R G C R) := by
    refine F.ok S hlen fun cdv A outer s H vs Q E hr hsp => ?_
    obtain ⟨F0, l, pv, us, qs, ds, sm, rfl, h1, h2, hp, h, c, ret⟩ := hsp
    refine ⟨_, pss_rd, ?_⟩
    have hdl := hl qs ds c
    have rl := rel_start1 (N := N) sm h1 h2 hp h (by omega)
    rw [hdl] at rl
    have ne : H l ≠ none := by rw [h1]; intro z; cases z
    refine body cdv A outer s H E hr l qs ds c F0 _ H _ rl (fun cs' σ' F' H' hp => hp.elim) ?_ (fun _ _ _ _ _ _ _ hp => hp.elim) (fun _ _ _ _ hp => hp.elim) (fun _ _ _ _ hp => hp.elim)
    intro d cs' σ' F' H' v hp st r q
    obtain ⟨qs', hR, e2⟩ := hp
    obtain ⟨pv', _, a1, a2, a3⟩ := r.own e2
    exact ret d qs' hR v F' H' pv' (stp_pen st ne) r.sub a1 a2 a3 q
  have := K1.raw hb (dvs := []) .nil
  intro A outer s H us vs Q E hr e0 r hsp
  exact this A outer s H us vs Q E hr e0 r (by show _; simpa using hsp)
end
section
variable {X : Cx} {G : Gx} {e : Expr} {es : List Expr} {np pos : Pos} {n : Str} {cs cs1 : List Cell} {ds qs : List D} {l : Addr} {j k : Nat}
theorem evr_fn1 {C : List D → List D → Prop} {R : List D → List D → D → List D → Prop} (i : Nat) (Fn : Fn1R G X.prog X.w X.mg X.base k n C R) (hr : Room j X.A) (hk : k ≤ j) (ha : EvP G (rdA X (e :: es)) cs l ds cs1) (hi : cs1[i]? = some (.own l qs)) (hC : C qs ds) (hg : Gl X n) (hK : G.K = X.K := by rfl) (hd : (n == ("__debug__" : Str)) = false := by decide)
    (he : starEach (e :: es) X.env = (false, eval e X.env) :: starEach es X.env := by rfl) (hpl : (backTo pos (starEach es X.env)).any (·.1) = false := by rfl) : EvR G (rdE X (.Call (.Name n np) (e :: es) [] pos)) cs fun d c => ∃ qs', R qs ds d qs' ∧ c = cs1.set i (.own l qs') := by
  obtain ⟨f, hm, kp, F⟩ := Fn
  rw [hK] at kp F
  refine evr_of (pe_callR F (hr.mono hk) kp hg hm pass0 pa_rd hd he hpl) fun F σ H Q rl q => ha F σ H _ rl fun vs F1 H1 st1 r1 q1 => ?_
  obtain ⟨pv, _, a1, a2, a3⟩ := r1.own hi
  refine ⟨F1, l, pv, vs, qs, ds, r1.sub, rfl, a1, a2, a3, q1, hC, fun d qs' hR v F2 H2 pv' st2 s2 h1 h2 h3 h4 => ?_⟩
  obtain ⟨r2, s3⟩ := pen_back r1 hi st2 s2 h1 h2 h3
  exact q d _ v F2 H2 ⟨qs', hR, rfl⟩ (st1.trans s3) r2 h4
end
end Fx

/-! repr of data; contracts of defs that are called where nothing is being shown. -/
namespace Fx
open PySem L2
section
variable {X : Cx} {G : Gx} {e : Expr} {pos : Pos} {cs cs1 : List Cell} {x : D}
def rRep (K : PySem.W.Frag) : List V → Hp → VK → Prop := fun vs H Q => ∃ y d, vs = [y] ∧ Dp K H y d ∧ d.showable = true ∧ d.hasDict = false ∧ d.depth ≤ 64 ∧ d.shown.length ≤ sizeLine ∧ Q (.str d.shown) H
theorem cr_repr (hg : X.A.guards = some []) (hu : X.A.units + 65 < cLine) : CallR X (.builtin "repr") (rRep X.K) := by
  intro pins s σ H vs us Q I r h
  obtain ⟨y, d, rfl, hd, hs, hk, hdp, hz, q⟩ := h
  cases r with
  | cons ry rt =>
    cases rt
    obtain ⟨as, rd⟩ := Dp.reads I d y _ hd ry
    have big : ∀ a, y = .ref a → wpAny (model X.prog X.w) X.A (call (.builtin "repr") [.ref a]) (EP X pins σ Q) X.xe s := fun a e => by
      subst e
      cases ry
      exact repr_of_reads' rd hs (fun z => by rw [hk] at z; cases z) hg (by omega) (fun _ _ z => z) (fun h' u tk kp => ⟨.str _, H, I.kept kp, ⟨_, rfl⟩, q⟩) hz
    cases hd with
    | non => cases ry; exact PySem.P.repr_of_none ⟨.str _, H, I.tok _, ⟨_, rfl⟩, q⟩
    | bl b => cases ry; exact PySem.P.repr_of_bool ⟨.str _, H, I.tok _, ⟨_, rfl⟩, q⟩
    | int i =>
      obtain ⟨t, rfl⟩ := ry
      exact PySem.P.repr_of_int (of_decide_eq_true hs) ⟨.str _, H, I.tok _, ⟨_, rfl⟩, q⟩
    | str z =>
      obtain ⟨t, rfl⟩ := ry
      exact PySem.P.repr_of_str ⟨.str _, H, I.tok _, ⟨_, rfl⟩, q⟩ hz
    | tup h1 h2 =>
      have := big _ rfl
      cases ry
      exact this
    | lst h1 h2 =>
      have := big _ rfl
      cases ry
      exact this
/-- what repr serves -/
structure Shows (x : D) : Prop where
  pl : plain x = true
  sh : (toPy x).showable = true
  nd : (toPy x).hasDict = false
  dp : deep x ≤ 64
  sz : (toPy x).shown.length ≤ sizeLine
theorem ev_repr {np : Pos} (sx : Shows x) (ha : Ev G (rdE X e) cs x cs1) (hg : X.A.guards = some []) (hu : X.A.units + 65 < cLine) (hm : X.mg "repr" = none) (gl : Gl X "repr") (hK : G.K = X.K := by rfl) (hs : starEach [e] X.env = (false, eval e X.env) :: starEach [] X.env := by rfl) (hpl : (backTo pos (starEach [] X.env)).any (·.1) = false := by rfl) :
    Ev G (rdE X (.Call (.Name "repr" np) [e] [] pos)) cs (.str (toPy x).shown) cs1 :=
  ev_callB (cr_repr hg hu) (fun F H vs Q sm h1 q => by
    obtain ⟨v, r, rfl, hv, hr⟩ := h1
    cases hr
    have d1 := dp_of sm x v hv sx.pl
    rw [hK] at d1
    exact ⟨v, toPy x, rfl, d1, sx.sh, sx.nd, Nat.le_trans (depth_of x) sx.dp, sx.sz, q _ F H (.refl sm) rfl⟩) (evv_cons ha evv_nil hs) gl hm (by rfl) (by decide) (by decide) hs hpl
end

/-! ### defs called where nothing is being shown -/
def FnG (P : Program) (w : World) (K : PySem.W.Frag) (mg : Str → Option Value) (base : Heap) (k : Nat) (f : Addr) (sp : Sp) : Prop :=
  ∀ (A : Around) (outer : List Env) (s : Shared) (H : Hp) (us : List Value) (vs : List V) (Q : VK) (E : XK), A.guards = some [] → Room k A → Env0 P w K mg base A outer s H → Vals vs us → sp vs H Q E →
    codeAny (model P w) A (.call (.ref f) ⟨us, []⟩) (CR CX0 outer P w H s Q E) s
def Fn0G (G : Gx) (P : Program) (w : World) (mg : Str → Option Value) (base : Heap) (k : Nat) (n : Str) (C : List D → Out → Prop) : Prop := ∃ f, mg n = some (.ref f) ∧ PySem.W.keepIn G.K (.ref f) = true ∧ FnG P w G.K mg base k f (sp0 G C)
section
variable {P : Program} {w : World} {G : Gx} {mg : Str → Option Value} {base : Heap} {x qual : Str} {st : Stmt} {f : Addr} {fd : FuncData} {N ps : List Str} {k : Nat}
theorem fnG_of {sp : Sp} (Fu : L2.Fun G.K x qual st f fd) (S : FnScope N ps (defScope st)) (bi : Binds G.K fd ps []) (ln : ∀ vs H Q E, sp vs H Q E → vs.length = ps.length)
    (bd : ∀ cdv A outer s H vs Q E, Room k (cx0 P w G.K mg base N qual st f cdv A outer s H E).A → A.guards = some [] → sp vs H Q E →
      rdSs (cx0 P w G.K mg base N qual st f cdv A outer s H E) (defBody st) { nx := fun _ H' => Q .non H', rt := Q } (start N vs) H) : FnG P w G.K mg base (k + 1) f sp := by
  obtain ⟨oc, od, kV, doc, pm, an, cdv, ct, osl, rfl, lk, hc⟩ := Fu.ex
  intro A outer s H us vs Q E gd room env rv want
  have n1 := ln vs H Q E want
  have inn : ∀ b o, base.get? b = some o → s.heap.get? b = some o := fun b o z => (env.bs b o z).1
  have KX := env.mod.kin.keeps inn
  have n2 : (us ++ []).length = ps.length := by
    rw [List.append_nil, ← rv.length]
    exact n1
  have bt := bi s us KX n2
  rw [List.append_nil] at bt
  have kinds : ∀ y ∈ ps.zip us, (defScope st).names.lookup y.1 = some .local ∨ ((defScope st).names.lookup y.1 = some .cell ∧ ((cellsFrom (s.heap.objs.size + 1) (defScope st).names []).lookup y.1).isSome = true) := by
    intro ⟨n, v⟩ hy
    refine (S.par n (List.of_mem_zip hy).1).imp id fun q => ?_
    exact ⟨q, PySem.W.cellsFrom_some _ _ _ (.inl q)⟩
  refine codeAny_call_function room.depth (KX _ _ lk) rfl S.co S.gen rfl (PySem.W.codeRec_of KX hc) (bt _ _ _ _ ?_)
  refine wpAny_newFunctionEnv_cells S.kind kinds fun en he s1 xx => ?_
  subst he
  refine ⟨(env.mod.nolimit.keeps inn).keeps xx.toInCall.keep, codeAny_func ?_⟩
  have I0 := inv_start (CX := CX0) (E := E) S room.hd env n1 rv xx
  have body := pss_rd.nox.run [] s1 (start N vs) H _ I0 (bd cdv A outer s H vs Q E (room.deeper _) gd want)
  refine wpAny_mono body (fun fl s2 z => ?_) fun _ _ z => z
  cases fl with
  | brk =>
    obtain ⟨_, _, _, z⟩ := z
    exact z.elim
  | cont =>
    obtain ⟨_, _, _, z⟩ := z
    exact z.elim
  | next =>
    obtain ⟨_, H2, J, z⟩ := z
    exact ⟨V.non, H2, J.os, J.bare, J.base, J.hok, rfl, z⟩
  | ret u =>
    obtain ⟨v, _, H2, J, rr, z⟩ := z
    exact ⟨v, H2, J.os, J.bare, J.base, J.hok, rr, z⟩
theorem fn0G {C : List D → Out → Prop} (F : L2.Fun G.K x qual st f fd) (S : FnScope N ps (defScope st)) (hb : Binds G.K fd ps []) (hl : ∀ ds o, C ds o → ds.length = ps.length) (hN : ps.length ≤ N.length)
    (body : ∀ cdv A outer s H E, Room k (cx0 P w G.K mg base N qual st f cdv A outer s H E).A → (cx0 P w G.K mg base N qual st f cdv A outer s H E).A.guards = some [] → ∀ ds o, C ds o → Sx G (rdSs (cx0 P w G.K mg base N qual st f cdv A outer s H E) (defBody st)) (vals ds ++ nos (N.length - ps.length)) (post0 o)) :
    FnG P w G.K mg base (k + 1) f (sp0 G C) := by
  refine fnG_of F S hb (fun vs H Q E ⟨F, ds, o, _, h, c, _⟩ => h.length.trans (hl ds o c)) fun cdv A outer s H vs Q E hr gd hsp => ?_
  obtain ⟨F0, ds, o, sm, h, c, ret⟩ := hsp
  have hdl := hl ds o c
  have rl := rel_start (N := N) sm h (by omega)
  rw [hdl] at rl
  have no : ∀ a, ¬ Owns (vals ds ++ nos (N.length - ps.length)) a := fun a => owns_start
  refine body cdv A outer s H E hr gd ds o c F0 _ H _ rl ?_ ?_ ?_ (fun cs' σ' F' H' hp => ?_) (fun cs' σ' F' H' hp => ?_)
  · intro cs' σ' F' H' hp st r
    cases o with
    | val d =>
      have e : d = .non := hp
      subst e
      exact ret .non F' H' (grow_of st no r.sub) rfl
    | new es => exact False.elim hp
  · intro d cs' σ' F' H' v hp st r q
    cases o with
    | val d' =>
      have e : d = d' := hp
      subst e
      exact ret v F' H' (grow_of st no r.sub) q
    | new es => exact False.elim hp
  · intro es cs' σ' F' H' p vs' hp st r q0 q1 q2 q3 q4
    cases o with
    | val d' => exact False.elim hp
    | new es' =>
      have e : es = es' := hp
      subst e
      exact ret p vs' F' H' (grow_of st no r.sub) (q0.elim id fun z => absurd z (no p)) q2 q3 q4
  · cases o <;> exact False.elim hp
  · cases o <;> exact False.elim hp
end
section
variable {X : Cx} {G : Gx} {e : Expr} {es : List Expr} {np pos : Pos} {n : Str} {cs cs1 : List Cell} {d : D} {ds : List D} {j k : Nat}
theorem ev_fn0G {C : List D → Out → Prop} (Fn : Fn0G G X.prog X.w X.mg X.base k n C) (gd : X.A.guards = some []) (hr : Room j X.A) (hk : k ≤ j) (ha : EvV G (rdA X (e :: es)) cs ds cs1) (hC : C ds (.val d)) (hg : Gl X n) (hK : G.K = X.K := by rfl) (hd : (n == ("__debug__" : Str)) = false := by decide)
    (he : starEach (e :: es) X.env = (false, eval e X.env) :: starEach es X.env := by rfl) (hpl : (backTo pos (starEach es X.env)).any (·.1) = false := by rfl) : Ev G (rdE X (.Call (.Name n np) (e :: es) [] pos)) cs d cs1 := by
  obtain ⟨f, hm, kp, F⟩ := Fn
  rw [hK] at kp F
  -- a promise at this very place
  have pe : PE X (.Call (.Name n np) (e :: es) [] pos) (fun σ H Q => rdA X (e :: es) σ H fun vs H1 => sp0 G C vs H1 Q E0) := by
    refine ⟨fun pins s σ H Q I h => ?_⟩
    refine wpAny_Call_Name_kw (ld_glob I hg hm ?_ hd)
    refine PySem.W.callWith_K (h₀ := X.base) I.ok.mod.kin kp (thn (pa_rd.run pos pins s σ H _ I h) fun us s1 ⟨vs, H1, I1, r, q⟩ => ⟨I1.kIn, ?_⟩) he hpl
    refine wpAny_call (codeAny_mono (F X.A X.stack s1 H1 us vs Q E0 gd (hr.mono hk) I1.env0 r q) fun r s2 z => ?_)
    cases r with
    | error _ => exact z.elim
    | ok fl =>
      cases fl with
      | ret u => exact I1.after z
      | next => exact z.elim
      | brk => exact z.elim
      | cont => exact z.elim
  refine ev_of pe fun F σ H Q rl q => ha F σ H _ rl fun vs F1 H1 st1 r1 q1 => ?_
  exact ⟨F1, ds, .val d, r1.sub, q1, hC, fun v F2 H2 g q2 => q v F2 H2 (st1.trans g.stp) (r1.grow g) q2⟩
end
end Fx

/-! The law's end for a promise that holds where nothing is being shown. -/
namespace Fx
open PySem L2 PySem.Spec PyProof.Rows
section
variable {P : Program} {w : World} {K : PySem.W.Frag} {mg mb : Str → Option Value} {k : Nat} {fa a : Addr} {sp : Sp} {s₁ : Shared} {vs : List Value} {ns : List Int}
theorem law_endG (KX : K.In s₁.heap) (g0 : s₁.heap.Ns mainGlobals mg) (b0 : s₁.heap.Ns builtinsNs mb) (bb : ∀ x : Str, x ≠ "__name__" → mb x = bootBuiltins x) (nl : s₁.heap.NoLimit) (gens : s₁.gens = #[])
    (at_ : s₁.heap.get? a = some { cls := .type "list", data := .seq vs.toArray }) (isI : IntsAre vs ns) (few : ns.length ≤ sizeLine) (room : Room k callerA)
    (F : ∀ base : Heap, FnG P w K mg base k fa sp)
    (want : ∀ H : Hp, SqL K H a (ns.map V.int) → sp [.ref a] H (fun v _ => v = .bl true) fun _ _ _ => False) :
    codeAny (model P w) callerA (.call (.ref fa) ⟨[.ref a], []⟩) (fun r s' => r = .ok (.ret (.bool true)) ∧ OldK s₁.heap s'.heap ∧ s'.os = s₁.os ∧ AllBare s'.gens) s₁ := by
  have rv := vals_ints isI
  have ln := isI.length
  -- nothing but the script is tracked in H
  have go : ∀ H : Hp, (∀ b, H b = none ∨ ∃ o xs, H b = some (.frz o (.lst xs))) → SqL K H a (ns.map V.int) → HOk P w H s₁.heap → (∀ b, b ≠ a → H b = none) → (K.lookup a ≠ none → H a = none) →
      codeAny (model P w) callerA (.call (.ref fa) ⟨[.ref a], []⟩) (fun r s' => r = .ok (.ret (.bool true)) ∧ OldK s₁.heap s'.heap ∧ s'.os = s₁.os ∧ AllBare s'.gens) s₁ := by
    intro H hO hS hok hA hK
    have free : ∀ {b : Addr} {o : Obj} {es : Array DictEntry} {ep : Nat}, s₁.heap.get? b = some o → o.data = .dict es ep → H b = none := by
      intro b o es ep e d
      by_cases z : b = a
      · subst z
        rw [at_] at e
        cases e
        have d' : Data.seq vs.toArray _ = Data.dict es ep := d
        cases d'
      · exact hA b z
    have nsp : ∀ {b : Addr} {m : Str → Option Value}, s₁.heap.Ns b m → (hidT s₁.heap H).Ns b m := by
      rintro b m ⟨o, es, ep, e, d, r⟩
      exact ⟨o, es, ep, hidT_get e (free e d), d, r⟩
    have kin : K.In (hidT s₁.heap H) := by
      intro b o e
      refine hidT_get (KX b o e) ?_
      by_cases z : b = a
      · subst z
        exact hK (by rw [e]; intro y; cases y)
      · exact hA b z
    have md : Mod K mg (hidT s₁.heap H) := ⟨kin, nsp g0, ⟨mb, nsp b0, bb⟩, by
      obtain ⟨mc, h1, h2⟩ := nl
      exact ⟨mc, nsp h1, h2⟩⟩
    have en : Env0 P w K mg (hidT s₁.heap H) callerA [] s₁ H := by
      refine ⟨rfl, md, fun b o e => of_hidT e, Nat.le_of_eq (hidT_size _ _), trivial, fun b hb => ?_, hok, .of_eq gens⟩
      exact absurd (show b ∈ ([] : List Addr) from hb) (by simp)
    refine codeAny_mono (F (hidT s₁.heap H) callerA [] s₁ H [.ref a] [.ref a] _ _ rfl room en (.cons rfl .nil) (want H hS)) fun r s' h => ?_
    cases r with
    | error e => exact False.elim h
    | ok fl =>
      cases fl with
      | next => exact False.elim h
      | brk => exact False.elim h
      | cont => exact False.elim h
      | ret u =>
        obtain ⟨v, H', os, bare, un, ok2, r', q⟩ := h
        have q' : v = .bl true := q
        subst q'
        obtain rfl : u = Value.bool true := r'
        refine ⟨rfl, OldK.of_keep fun b o e => ?_, os, bare⟩
        rcases hO b with z | ⟨ob, xs, z⟩
        · refine un.keep b o e z ?_ (by simp)
          intro y
          exact absurd (show b ∈ ([] : List Addr) from y) (by simp)
        · have e1 := (hok b _ z).1
          have e2 := (ok2 b _ (un.frzs b ob _ z)).1
          rw [e] at e1
          cases e1
          exact e2
  cases hk : K.lookup a with
  | some o =>
    have e := KX a o hk
    rw [at_] at e
    cases e
    refine go (fun _ => none) (fun _ => .inl rfl) (.inr ⟨_, vs.toArray, _, hk, rfl, rfl, rfl, ?_, by simpa using rv⟩) (fun b u z => ?_) (fun _ _ => rfl) fun _ => rfl
    · rw [List.size_toArray, ln]
      exact few
    · have z' : (none : Option HO) = some u := z
      cases z'
  | none =>
    let o : Obj := { cls := .type "list", data := .seq vs.toArray }
    have e1 : (upd (fun _ => none) a (HO.frz o (.lst (ns.map V.int))) : Hp) a = some (.frz o (.lst (ns.map V.int))) := upd_same
    refine go (upd (fun _ => none) a (.frz o (.lst (ns.map V.int)))) (fun b => ?_) (.inl (.inr ⟨o, e1⟩)) (fun b u z => ?_) (fun b z => upd_ne z) fun z => absurd hk z
    · by_cases y : b = a
      · subst y
        exact .inr ⟨o, _, e1⟩
      · exact .inl (upd_ne y)
    · by_cases y : b = a
      · subst y
        rw [e1] at z
        cases z
        exact ⟨at_, by rw [List.length_map]; exact few, vs, _, rv, at_⟩
      · rw [upd_ne y] at z
        cases z
theorem walk_G {l : PySem.W.OpenLaw} {n k : Nat} {q : Program} {loose : List Str} {XP : (Str → Option Value) → Heap → Prop} {YP : World → Heap → Prop} {d : DefRec} (hn : l.most = some n) (hn2 : n ≤ sizeLine) (hdf : d.params.defaults = []) (hr : Room k callerA)
    (F : ∀ (w : World) (mg : Str → Option Value) (fa : Addr) (h : Heap), YP w h → h.Ns mainGlobals mg → mg d.name = some (.ref fa) →
      ∃ (K : PySem.W.Frag) (sp : Sp), K.In h ∧ (∀ (H : Hp) (a : Addr) (ns : List Int), ns.length ≤ n → SqL K H a (ns.map V.int) → sp [.ref a] H (fun v _ => v = .bl true) fun _ _ _ => False) ∧ ∀ base : Heap, FnG l.prog w K mg base k fa sp) :
    PySem.W.WalkO q loose XP YP l.row.toRowW d [] (fun f vs => PySem.call f vs) := by
  refine Att.attach_call hn hdf ?_
  intro w _ s₁ mg mb fa _ _ _ _ a vs ns G Y _ _ _ gm ob it le ge
  obtain ⟨K, sp, KX, hsp, hF⟩ := F w mg fa _ Y G.T.g gm
  exact law_endG KX G.T.g G.T.b G.T.builtins G.T.nolimit ge ob it (Nat.le_trans le hn2) hr hF fun H hS => hsp H a ns le hS
end
end Fx

/-! Calls of instances; comprehensions with two fors; what repr serves. -/
namespace Fx
open PySem L2
section
variable (G : Gx) (P : Program) (w : World) (mg : Str → Option Value) (base : Heap) (c k : Nat)
def PkCall (C : List D → Out → Prop) : Prop := ∃ g, StX.CallO G.K (G.cls c) g ∧ FnR P w G.K mg base CX0 k g (sp0 G C)
end
section
variable {X : Cx} {G : Gx} {e fe : Expr} {es : List Expr} {pos : Pos} {cs cs1 cs2 : List Cell} {z : D} {ds es' : List D} {c j k : Nat}
theorem ev_inst {C : List D → Out → Prop} (Pk : PkCall G X.prog X.w X.mg X.base c k C) (hf : Ev G (rdE X fe) cs (.obj c ds) cs1) (hr : Room j X.A) (hk : k ≤ j) (ha : EvV G (rdA X (e :: es)) cs1 es' cs2) (hC : C (.obj c ds :: es') (.val z)) (hK : G.K = X.K := by rfl)
    (ht : eval (.Call fe (e :: es) [] pos) X.env = (do callWith pos (← eval fe X.env) [] (backTo pos (starEach (e :: es) X.env)) (backToKw pos (keywordEach [] X.env))) := by rfl)
    (he : starEach (e :: es) X.env = (false, eval e X.env) :: starEach es X.env := by rfl) (hpl : (backTo pos (starEach es X.env)).any (·.1) = false := by rfl) : Ev G (rdE X (.Call fe (e :: es) [] pos)) cs z cs2 := by
  obtain ⟨g, c1, F⟩ := Pk
  rw [hK] at c1 F
  refine ev_of (StX.pe_callO (E := E0) pe_rd c1 F (hr.mono hk) pass0 pa_rd ht he hpl) fun F σ H Q rl q => hf F σ H _ rl fun v F1 H1 st1 r1 q1 => ?_
  obtain ⟨a, dx, fs, rfl, h1, h2, h3⟩ := q1
  refine ⟨a, rfl, ha F1 σ H1 _ r1 fun vs F2 H2 st2 r2 q2 => ?_⟩
  have h4 := st2.fsub _ _ h1
  exact ⟨.inr ⟨dx, fs, r2.sub _ _ h4⟩, F2, .obj c ds :: es', .val z, r2.sub, ⟨_, _, rfl, ⟨a, dx, fs, rfl, h4, h2, IsAll.mono st2.fsub ds h3⟩, q2⟩, hC, fun u F3 H3 g3 q3 => q u F3 H3 ((st1.trans st2).trans g3.stp) (r2.grow g3) q3⟩
end

/-! ### [.. for .. in .. for .. in .. if ..] -/
section
variable {X : Cx} {G : Gx} {elt tg iter tg1 iter1 : Expr} {ifs1 : List Expr} {cs cs1 : List Cell} {scope : Scope}
abbrev iU (X : Cx) (scope : Scope) (tg iter : Expr) : TI := fun σ H R => ∀ s H0 C cl fp, rdI (Bk X scope s H0 C cl fp) tg iter σ H R
def TurnP2 {β : Type} (G : Gx) (X : Cx) (scope : Scope) (tg tg1 iter1 elt : Expr) (ifs1 : List Expr) (vs vs1 : List Nat) (cs1 : List Cell) (d : D) (ys : List β) (enc : β → D) (t : β → Bool) (g : β → D) : Prop :=
  ∃ cs3 tl, (∀ j ∈ tl, j ∈ vs) ∧ (∀ s H C cl fp, EvG G (rdG (Bk X scope s H C cl fp) tg) tl d (wipeC cs1 vs) cs3) ∧ restC cs1 cs3 vs = cs1 ∧ (∀ s H C cl fp, EvI G (rdI (Bk X scope s H C cl fp) tg1 iter1) cs3 (ys.map enc) cs3) ∧
    ∀ y ∈ ys, ∃ cs4 tl1, (∀ j ∈ tl1, j ∈ vs1) ∧ (∀ s H C cl fp, EvG G (rdG (Bk X scope s H C cl fp) tg1) tl1 (enc y) (wipeC cs3 vs1) cs4) ∧ (∀ s H C cl fp, EvT G (rdTs (Bk X scope s H C cl fp) ifs1) cs4 (t y) cs4) ∧
      (t y = true → ∀ s H C cl fp, Ev G (rdE (Bk X scope s H C cl fp) elt) cs4 (g y) cs4) ∧ restC cs3 cs4 vs1 = cs3
theorem len_flat2 {α β γ : Type} (ys : α → List β) (t : α → β → Bool) (g : α → β → γ) : ∀ (xs : List α), (∀ x ∈ xs, (ys x).length ≤ 1000) → (xs.flatMap fun x => ((ys x).filter (t x)).map (g x)).length ≤ 1000 * xs.length
  | [], _ => by simp
  | x :: xs, h => by
    rw [List.flatMap_cons, List.length_append, List.length_map, List.length_cons]
    have h1 := h x (List.mem_cons_self ..)
    have h2 := List.length_filter_le (t x) (ys x)
    have h3 := len_flat2 ys t g xs fun y hy => h y (List.mem_cons_of_mem _ hy)
    omega
theorem evn_tLc2 {α β : Type} {own : List (Str × Nat)} {vs1 : List Nat} (xs : List α) (enc : α → D) (ys : α → List β) (enc2 : β → D) (t : α → β → Bool) (g : α → β → D) (hi : EvI G (rdI X tg iter) cs (xs.map enc) cs1) (hz : xs.length ≤ 1000) (hz2 : ∀ x ∈ xs, (ys x).length ≤ 1000)
    (hs : ∀ x ∈ xs, TurnP2 G X scope tg tg1 iter1 elt ifs1 (own.map (·.2)) vs1 cs1 (enc x) (ys x) enc2 (t x) (g x)) :
    EvN G (tLc2 (rdI X tg iter) (gU X scope tg) (tU X scope []) (iU X scope tg1 iter1) (gU X scope tg1) (tU X scope ifs1) (eU X scope elt) (own.map (·.2)) vs1) cs (xs.flatMap fun x => ((ys x).filter (t x)).map (g x)) cs1 := fun F σ H Q rl q => by
  refine hi F σ H _ rl fun J F1 H1 st1 r1 it Dl hD => ?_
  have g0 := grow_new (o := .lst []) r1.sub hD
  have hF : F1 Dl = none := by
    cases e : F1 Dl with
    | none => rfl
    | some u => rw [r1.sub Dl u e] at hD; cases hD
  have hH : H Dl = none := st1.back Dl hD
  have no1 : ¬ Owns cs1 Dl := r1.notOwns hD
  let acc : Nat → List D := fun i => (xs.take i).flatMap fun x => ((ys x).filter (t x)).map (g x)
  have hlen : (xs.map enc).length = xs.length := List.length_map ..
  refine ⟨fun i m H2 => m = xs.length - i ∧ i ≤ xs.length ∧ ∃ F2 ws, Rel G F2 σ H2 cs1 ∧ Stp F1 (upd H1 Dl (.lst [])) (fun a => Owns cs1 a ∨ a = Dl) F2 H2 (fun a => Owns cs1 a ∨ a = Dl) ∧ H2 Dl = some (.lst ws) ∧ F2 Dl = none ∧ IsAll G F2 (acc i) ws,
    ⟨xs.length, by simp, Nat.zero_le _, F1, [], r1.grow g0, .refl, upd_same, hF, rfl⟩, ?_⟩
  rintro i m H2 ⟨rfl, hi2, F2, ws, r2, st2, hw, hF2, qa⟩
  obtain ⟨hgo, hstop⟩ := it F2 H2 st2.fsub r2.sub
  have stAll : Stp F H (Owns cs) F2 H2 (Owns cs1) := by
    refine ⟨st1.fsub.trans st2.fsub, fun a o e n => ?_, fun a o e => ?_, fun a e => ?_, fun a e => ?_⟩
    · have na : a ≠ Dl := fun z => by rw [z, hH] at e; cases e
      have e1 := st1.frame a o e n
      refine st2.frame a o (by rw [upd_ne na]; exact e1) fun z => ?_
      rcases z with z | z
      · rcases st1.own a z with y | y
        · exact n y
        · rw [y] at e; cases e
      · exact na z
    · rcases st2.fresh a o e with z | z | z | z
      · exact st1.fresh a o z
      · have na : a ≠ Dl := fun y => by rw [y, upd_same] at z; cases z
        rw [upd_ne na] at z
        exact .inr (.inl (st1.back a z))
      · rcases st1.own a z with y | y
        · exact .inr (.inr y)
        · exact .inr (.inl y)
      · rw [z, hF2] at e; cases e
    · exact st1.own a e
    · have z := st2.back a e
      have na : a ≠ Dl := fun y => by rw [y, upd_same] at z; cases z
      rw [upd_ne na] at z
      exact st1.back a z
  by_cases hlt : i < xs.length
  · have hix : (xs.map enc)[i]? = some (enc xs[i]) := by rw [List.getElem?_map, List.getElem?_eq_getElem hlt]; rfl
    obtain ⟨go, yl⟩ := hgo i (enc xs[i]) hix
    have hmem : xs[i] ∈ xs := List.getElem_mem hlt
    have hacc : acc (i + 1) = acc i ++ ((ys xs[i]).filter (t xs[i])).map (g xs[i]) := by
      show (xs.take (i + 1)).flatMap _ = (xs.take i).flatMap _ ++ _
      rw [List.take_add_one, List.getElem?_eq_getElem hlt, List.flatMap_append]
      simp
    have hal : (acc i).length ≤ 1000 * xs.length := by
      have h1 := len_flat2 ys t g (xs.take i) fun x hx => hz2 x (List.mem_of_mem_take hx)
      have h2 : (xs.take i).length ≤ xs.length := by rw [List.length_take]; omega
      exact Nat.le_trans h1 (Nat.mul_le_mul_left _ h2)
    generalize hx0 : xs[i] = x at *
    refine .inr ⟨go, fun H' => ∃ F4 ws, Rel G F4 σ H' cs1 ∧ Stp F1 (upd H1 Dl (.lst [])) (fun a => Owns cs1 a ∨ a = Dl) F4 H' (fun a => Owns cs1 a ∨ a = Dl) ∧ H' Dl = some (.lst ws) ∧ F4 Dl = none ∧ IsAll G F4 (acc (i + 1)) ws,
      fun H' z => ⟨xs.length - (i + 1), by omega, rfl, hlt, z⟩, fun x1 H3 y1 => ?_⟩
    obtain ⟨F3, gr, q3⟩ := yl x1 H3 y1
    obtain ⟨cs3, tl, htl, hg, hr3, hi1, hy1⟩ := hs x hmem
    have r3 := r2.grow gr
    obtain ⟨rw3, sw3⟩ := r3.wipe (own.map (·.2))
    intro sA HA CA clA fpA
    refine hg sA HA CA clA fpA F3 (L2.wipe σ (own.map (·.2))) H3 x1 _ rw3 q3 fun σ3 st3 r4 u3 => ?_
    have hl3 : σ3.length = σ.length := u3.1.trans (wipe_length σ _)
    have out : ∀ j, j ∉ own.map (·.2) → σ3[j]? = (L2.wipe σ (own.map (·.2)))[j]? := fun j hj => u3.2 j fun z => hj (htl j z)
    have outS : ∀ j, j ∉ own.map (·.2) → σ3[j]? = σ[j]? := fun j hj => (out j hj).trans (wipe_get σ _ j hj)
    have w3 : H3 Dl = some (.lst ws) := gr.hsub _ _ hw
    have f3 : F3 Dl = none := by
      cases e : F3 Dl with
      | none => rfl
      | some u =>
        rcases gr.fresh Dl u e with z | z
        · rw [hF2] at z; cases z
        · rw [hw] at z; cases z
    have no3 : ¬ Owns cs3 Dl := fun z => by
      rcases st3.own Dl z with z | z
      · rcases sw3.own Dl z with z | z
        · exact no1 z
        · rw [w3] at z; cases z
      · rw [w3] at z; cases z
    refine ⟨wipe_same hl3 out, ?_⟩
    intro sB HB CB clB fpB
    refine ets_nil F3 σ3 H3 _ r4 fun F4 H4 st4 r5 => iteT ?_
    intro sC HC CC clC fpC
    refine hi1 sC HC CC clC fpC F4 σ3 H4 _ r5 fun J1 F5 H5 st5 r6 it1 => ?_
    have w4 : H4 Dl = some (.lst ws) := st4.frame _ _ w3 no3
    have f4 : F4 Dl = none := free_of st4 f3 w3 no3
    have w5 : H5 Dl = some (.lst ws) := st5.frame _ _ w4 no3
    have f5 : F5 Dl = none := free_of st5 f4 w4 no3
    have s5 : Stp F2 H2 (Owns cs1) F5 H5 (Owns cs3) := (((gr.stp.trans sw3).trans st3).trans st4).trans st5
    refine ⟨fun j k H6 => k = (ys x).length - j ∧ j ≤ (ys x).length ∧ ∃ F6 ws, Rel G F6 σ3 H6 cs3 ∧ Stp F5 H5 (fun a => Owns cs3 a ∨ a = Dl) F6 H6 (fun a => Owns cs3 a ∨ a = Dl) ∧ H6 Dl = some (.lst ws) ∧ F6 Dl = none ∧ IsAll G F6 (acc i ++ (((ys x).take j).filter (t x)).map (g x)) ws,
      ⟨(ys x).length, by simp, Nat.zero_le _, F5, ws, r6, .refl, w5, f5, by simpa using IsAll.mono s5.fsub (acc i) qa⟩, ?_⟩
    rintro j k H6 ⟨rfl, hj2, F6, ws6, r7, st6, hw6, hF6, qa6⟩
    obtain ⟨hgo1, hstop1⟩ := it1 F6 H6 st6.fsub r7.sub
    by_cases hlt1 : j < (ys x).length
    · have hiy : ((ys x).map enc2)[j]? = some (enc2 (ys x)[j]) := by rw [List.getElem?_map, List.getElem?_eq_getElem hlt1]; rfl
      obtain ⟨go1, yl1⟩ := hgo1 j _ hiy
      have hmy : (ys x)[j] ∈ ys x := List.getElem_mem hlt1
      have hstep := filter_take_succ (t x) (ys x) (List.getElem?_eq_getElem hlt1)
      have hin : (((ys x).take j).filter (t x)).length ≤ 1000 := by
        have h1 := List.length_filter_le (t x) ((ys x).take j)
        have h2 : ((ys x).take j).length ≤ (ys x).length := by rw [List.length_take]; omega
        have h3 := hz2 x hmem
        omega
      generalize hy0 : (ys x)[j] = y at *
      refine .inr ⟨go1, fun H' => ∃ F4 ws, Rel G F4 σ3 H' cs3 ∧ Stp F5 H5 (fun a => Owns cs3 a ∨ a = Dl) F4 H' (fun a => Owns cs3 a ∨ a = Dl) ∧ H' Dl = some (.lst ws) ∧ F4 Dl = none ∧ IsAll G F4 (acc i ++ (((ys x).take (j + 1)).filter (t x)).map (g x)) ws,
        fun H' z => ⟨(ys x).length - (j + 1), by omega, rfl, hlt1, z⟩, fun x2 H7 y2 => ?_⟩
      obtain ⟨F7, gr7, q7⟩ := yl1 x2 H7 y2
      obtain ⟨cs4, tl1, htl1, hg1, ht1, he1, hr4⟩ := hy1 y hmy
      have r8 := r7.grow gr7
      obtain ⟨rw8, sw8⟩ := r8.wipe vs1
      intro sD HD' CD clD fpD
      refine hg1 sD HD' CD clD fpD F7 (L2.wipe σ3 vs1) H7 x2 _ rw8 q7 fun σ4 st8 r9 u8 => ?_
      have hl8 : σ4.length = σ3.length := u8.1.trans (wipe_length σ3 _)
      have out8 : ∀ j, j ∉ vs1 → σ4[j]? = (L2.wipe σ3 vs1)[j]? := fun j hj => u8.2 j fun z => hj (htl1 j z)
      have outS8 : ∀ j, j ∉ vs1 → σ4[j]? = σ3[j]? := fun j hj => (out8 j hj).trans (wipe_get σ3 _ j hj)
      have w7 : H7 Dl = some (.lst ws6) := gr7.hsub _ _ hw6
      have f7 : F7 Dl = none := by
        cases e : F7 Dl with
        | none => rfl
        | some u =>
          rcases gr7.fresh Dl u e with z | z
          · rw [hF6] at z; cases z
          · rw [hw6] at z; cases z
      have no4 : ¬ Owns cs4 Dl := fun z => by
        rcases st8.own Dl z with z | z
        · rcases sw8.own Dl z with z | z
          · exact no3 z
          · rw [w7] at z; cases z
        · rw [w7] at z; cases z
      refine ⟨wipe_same hl8 out8, ?_⟩
      intro sE HE CE clE fpE
      refine ht1 sE HE CE clE fpE F7 σ4 H7 _ r9 fun F8 H8 st9 r10 => ?_
      have w8 : H8 Dl = some (.lst ws6) := st9.frame _ _ w7 no4
      have f8 : F8 Dl = none := free_of st9 f7 w7 no4
      have s8 : Stp F6 H6 (Owns cs3) F8 H8 (Owns cs4) := ((gr7.stp.trans sw8).trans st8).trans st9
      have own4 : ∀ a, Owns cs3 a → Owns cs4 a := fun a z => by rw [← hr4] at z; exact owns_rest z
      have back : ∀ {F9 H9 : Hp} {σ' : L2.St}, Rel G F9 σ4 H9 cs4 → Same F6 F9 → Rel G F9 σ3 H9 cs3 := fun {F9 H9 σ'} r s => by
        have := r7.rest (vs := vs1) r s hl8 outS8
        rw [hr4] at this
        exact this
      cases ht : t x y with
      | true =>
        refine iteT ?_
        intro sG HG CG clG fpG
        refine he1 ht sG HG CG clG fpG F8 σ4 H8 _ r10 fun v F9 H9 st10 r11 q9 => ?_
        have w9 : H9 Dl = some (.lst ws6) := st10.frame _ _ w8 no4
        have f9 : F9 Dl = none := free_of st10 f8 w8 no4
        have s9 := s8.trans st10
        refine ⟨ws6, w9, ?_, F9, ws6 ++ [v], (back (σ' := σ4) r11 s9.fsub).updFree f9 no3, ?_, upd_same, f9, ?_⟩
        · rw [qa6.length, List.length_append, List.length_map]
          have : (1000 : Nat) * xs.length ≤ 1000000 := by omega
          rw [sizeLine_eq]
          omega
        · exact (st6.trans (stp_sub s9 own4).plus).trans stp_wr
        · rw [hstep, ht, if_pos rfl, List.map_append, ← List.append_assoc]
          exact (IsAll.mono s9.fsub _ qa6).append (.one q9)
      | false =>
        refine iteF ⟨F8, ws6, back (σ' := σ4) r10 s8.fsub, st6.trans (stp_sub s8 own4).plus, w8, f8, ?_⟩
        rw [hstep, ht, if_neg (by decide), List.append_nil]
        exact IsAll.mono s8.fsub _ qa6
    · have e : j = (ys x).length := by omega
      subst e
      refine .inl ⟨by rw [List.length_map] at hstop1; exact hstop1, F6, ws6, ?_, ?_, hw6, hF6, ?_⟩
      · have := r2.rest (vs := own.map (·.2)) r7 (s5.fsub.trans st6.fsub) hl3 outS
        rw [hr3] at this
        exact this
      · have own3 : ∀ a, (Owns cs1 a ∨ a = Dl) → (Owns cs3 a ∨ a = Dl) := fun a z => z.imp (fun z => by rw [← hr3] at z; exact owns_rest z) id
        exact stp_sub ((st2.trans s5.plus).trans st6) own3
      · rw [hacc]
        rw [List.take_length] at qa6
        exact qa6
  · have e : i = xs.length := by omega
    subst e
    refine .inl ⟨by rw [hlen] at hstop; exact hstop, q Dl ws F2 H2 stAll r2 hH no1 hw hF2 ?_⟩
    have : acc xs.length = xs.flatMap fun x => ((ys x).filter (t x)).map (g x) := by
      show (xs.take xs.length).flatMap _ = _
      rw [List.take_length]
    rw [← this]
    exact qa
variable {n : Str} {pos : Pos} {P : Post} {ds : List D}
theorem evn_lc2 {own : List (Str × Nat)} {vs1 : List Nat} (h : EvN G (tLc2 (rdI X tg iter) (gU X scope tg) (tU X scope []) (iU X scope tg1 iter1) (gU X scope tg1) (tU X scope ifs1) (eU X scope elt) (own.map (·.2)) vs1) cs ds cs1) (hc : X.calm = true) (hN : X.N.Nodup) (ok : BlkOk X.N X.env.scope scope own) (hv : ∀ i ∈ vs1, i ∈ own.map (·.2)) (hf : ∀ x, foldedSetIterable iter X.env x = pure x := by intro _; rfl) (hf1 : ∀ env x, foldedSetIterable iter1 env x = pure x := by intro _ _; rfl) :
    EvN G (rdE X (.ListComp elt [⟨tg, iter, [], 0⟩, ⟨tg1, iter1, ifs1, 0⟩] scope pos)) cs ds cs1 :=
  evn_of (pe_lc2 (g := gU X scope tg) (tt := tU X scope []) (wi1 := iU X scope tg1 iter1) (g1 := gU X scope tg1) (tt1 := tU X scope ifs1) (te := eU X scope elt) hc hN pi_rd ok hv
    (fun s H0 C cl fp => ⟨fun pins t σ H v u Q J r h => h s H0 C cl fp pins t u J r⟩) (fun s H0 C cl fp => ⟨fun pins t σ H Q J h => h s H0 C cl fp pins t J⟩) (fun s H0 C cl fp => ⟨fun pins t σ H R J h => h s H0 C cl fp pins t J⟩)
    (fun s H0 C cl fp => ⟨fun pins t σ H v u Q J r h => h s H0 C cl fp pins t u J r⟩) (fun s H0 C cl fp => ⟨fun pins t σ H Q J h => h s H0 C cl fp pins t J⟩) (fun s H0 C cl fp => ⟨fun pins t σ H Q J h => h s H0 C cl fp pins t J⟩) hf hf1) h
theorem sx_setLc2 (i : Nat) {own : List (Str × Nat)} {vs1 : List Nat} {py spos : Pos} (h : EvN G (tLc2 (rdI X tg iter) (gU X scope tg) (tU X scope []) (iU X scope tg1 iter1) (gU X scope tg1) (tU X scope ifs1) (eU X scope elt) (own.map (·.2)) vs1) cs ds cs1) (hp : ∀ l, P.nx (cs1.set i (.own l ds))) (hc : X.calm = true) (hN : X.N.Nodup) (hy : X.N[i]? = some n) (hyl : X.env.scope.names.lookup n = some .local)
    (hsw : swapsWith (.ListComp elt [⟨tg, iter, [], 0⟩, ⟨tg1, iter1, ifs1, 0⟩] scope pos) (some (.Name n py)) spos.line X.env = pure true) (ok : BlkOk X.N X.env.scope scope own) (hv : ∀ i ∈ vs1, i ∈ own.map (·.2)) (hf : ∀ x, foldedSetIterable iter X.env x = pure x := by intro _; rfl) (hf1 : ∀ env x, foldedSetIterable iter1 env x = pure x := by intro _ _; rfl) :
    Sx G (rdS X (.Assign [.Name n py] (.ListComp elt [⟨tg, iter, [], 0⟩, ⟨tg1, iter1, ifs1, 0⟩] scope pos) spos)) cs P :=
  sx_of (ps_setLc2 (i := i) (g := gU X scope tg) (tt := tU X scope []) (wi1 := iU X scope tg1 iter1) (g1 := gU X scope tg1) (tt1 := tU X scope ifs1) (te := eU X scope elt) hc hN hy hyl hsw pi_rd ok hv
    (fun s H0 C cl fp => ⟨fun pins t σ H v u Q J r h => h s H0 C cl fp pins t u J r⟩) (fun s H0 C cl fp => ⟨fun pins t σ H Q J h => h s H0 C cl fp pins t J⟩) (fun s H0 C cl fp => ⟨fun pins t σ H R J h => h s H0 C cl fp pins t J⟩)
    (fun s H0 C cl fp => ⟨fun pins t σ H v u Q J r h => h s H0 C cl fp pins t u J r⟩) (fun s H0 C cl fp => ⟨fun pins t σ H Q J h => h s H0 C cl fp pins t J⟩) (fun s H0 C cl fp => ⟨fun pins t σ H Q J h => h s H0 C cl fp pins t J⟩) hf hf1) fun F σ H E rl k1 _ _ _ _ => h F σ H _ rl fun p vs F1 H1 st1 r1 q0 q1 q2 q3 q4 => by
    obtain ⟨st2, r2⟩ := set_own (i := i) st1 r1 q0 q1 q2 q3 q4
    exact k1 _ _ F1 H1 (hp p) st2 r2
end

/-! ### what repr serves: how long the text is -/
section
open TL
structure Sh (k n : Nat) (x : D) : Prop where
  pl : plain x = true
  sh : (toPy x).showable = true
  nd : (toPy x).hasDict = false
  dp : deep x ≤ k
  sz : (toPy x).shown.length ≤ n
theorem Sh.shows {k n : Nat} {x : D} (h : Sh k n x) (hk : k ≤ 64) (hn : n ≤ 16777216) : Shows x := ⟨h.pl, h.sh, h.nd, Nat.le_trans h.dp hk, Nat.le_trans h.sz (by rw [sizeLine_eq]; exact hn)⟩
theorem Sh.le {k n k' n' : Nat} {x : D} (h : Sh k n x) (hk : k ≤ k') (hn : n ≤ n') : Sh k' n' x := ⟨h.pl, h.sh, h.nd, Nat.le_trans h.dp hk, Nat.le_trans h.sz hn⟩
theorem joinL_len (sep : List Nat) {n : Nat} : ∀ l : List (List Nat), (∀ p ∈ l, p.length ≤ n) → (joinL sep l).length ≤ l.length * (n + sep.length)
  | [], _ => by simp [joinL]
  | [p], h => by
    have := h p (List.mem_cons_self ..)
    simp [joinL]
    omega
  | p :: q :: r, h => by
    show (p ++ (sep ++ joinL sep (q :: r))).length ≤ _
    have h1 := h p (List.mem_cons_self ..)
    have h2 := joinL_len sep (q :: r) fun z hz => h z (List.mem_cons_of_mem _ hz)
    rw [List.length_append, List.length_append, List.length_cons, Nat.succ_mul]
    omega
theorem join_len {n : Nat} (ts : List Str) (h : ∀ t ∈ ts, t.length ≤ n) : (Str.join ", " ts).length ≤ ts.length * (n + 2) := by
  rw [len_tl, tl_join]
  have e : (tl (", " : Str)).length = 2 := by decide +kernel
  have := joinL_len (tl (", " : Str)) (n := n) (ts.map tl) fun p hp => by
    obtain ⟨t, ht, rfl⟩ := List.mem_map.mp hp
    rw [← len_tl]
    exact h t ht
  rw [List.length_map, e] at this
  exact this
theorem shownAll_map : ∀ xs : List PyData, PyData.shownAll xs = xs.map PyData.shown
  | [] => by simp only [PyData.shownAll_nil, List.map_nil]
  | x :: xs => by rw [PyData.shownAll_cons, shownAll_map xs, List.map_cons]
theorem hasDictAll_of : ∀ {xs : List PyData}, (∀ x ∈ xs, x.hasDict = false) → PyData.hasDictAll xs = false
  | [], _ => by simp only [PyData.hasDictAll]
  | x :: xs, h => by
    simp only [PyData.hasDictAll, h x (List.mem_cons_self ..), hasDictAll_of fun y hy => h y (List.mem_cons_of_mem _ hy), Bool.or_self]
theorem len_app' (x y : Str) : (x ++ y).length = x.length + y.length := by rw [len_tl, tl_append, List.length_append, len_tl, len_tl]
section
variable {ds : List D} {k n : Nat}
theorem sh_parts (h : ∀ d ∈ ds, Sh k n d) : PyData.showableAll (toPys ds) = true ∧ PyData.hasDictAll (toPys ds) = false ∧ (Str.join ", " (PyData.shownAll (toPys ds))).length ≤ ds.length * (n + 2) := by
  rw [toPys_map]
  refine ⟨Spec.showableAll_of fun x hx => ?_, hasDictAll_of fun x hx => ?_, ?_⟩
  · obtain ⟨d, hd, rfl⟩ := List.mem_map.mp hx
    exact (h d hd).sh
  · obtain ⟨d, hd, rfl⟩ := List.mem_map.mp hx
    exact (h d hd).nd
  · rw [shownAll_map, List.map_map]
    have := join_len (n := n) (ds.map (PyData.shown ∘ toPy)) fun t ht => by
      obtain ⟨d, hd, rfl⟩ := List.mem_map.mp ht
      exact (h d hd).sz
    rw [List.length_map] at this
    exact this
theorem sh_lst (h : ∀ d ∈ ds, Sh k n d) : Sh (k + 1) (2 + ds.length * (n + 2)) (.lst ds) := by
  obtain ⟨h1, h2, h3⟩ := sh_parts h
  refine ⟨plains_of fun d hd => (h d hd).pl, ?_, ?_, Nat.succ_le_succ (deeps_le fun d hd => (h d hd).dp), ?_⟩
  · show (PyData.list (toPys ds)).showable = true
    simpa only [PyData.showable] using h1
  · show (PyData.list (toPys ds)).hasDict = false
    simpa only [PyData.hasDict] using h2
  · show (PyData.list (toPys ds)).shown.length ≤ _
    rw [PyData.shown_list, len_app', len_app']
    have e1 : ("[" : Str).length = 1 := by decide +kernel
    have e2 : ("]" : Str).length = 1 := by decide +kernel
    omega
theorem sh_tup (h : ∀ d ∈ ds, Sh k n d) : Sh (k + 1) (3 + ds.length * (n + 2)) (.tup ds) := by
  obtain ⟨h1, h2, h3⟩ := sh_parts h
  refine ⟨plains_of fun d hd => (h d hd).pl, ?_, ?_, Nat.succ_le_succ (deeps_le fun d hd => (h d hd).dp), ?_⟩
  · show (PyData.tuple (toPys ds)).showable = true
    simpa only [PyData.showable] using h1
  · show (PyData.tuple (toPys ds)).hasDict = false
    simpa only [PyData.hasDict] using h2
  · show (PyData.tuple (toPys ds)).shown.length ≤ _
    rw [PyData.shown_tuple, len_app', len_app']
    have e1 : ("(" : Str).length = 1 := by decide +kernel
    have e2 : ((if (toPys ds).length == 1 then ",)" else ")" : String) : Str).length ≤ 2 := by split <;> decide +kernel
    omega
theorem sh_bl (b : Bool) : Sh 0 5 (.bl b) := ⟨rfl, by cases b <;> decide +kernel, by cases b <;> decide +kernel, Nat.le_refl _, by cases b <;> decide +kernel⟩
theorem sh_non : Sh 0 4 .non := ⟨rfl, by decide +kernel, by decide +kernel, Nat.le_refl _, by decide +kernel⟩
theorem sh_col {i : Int} (h0 : 0 ≤ i) (h1 : i < 10) : Sh 0 1 (.int i) := by
  have : i = 0 ∨ i = 1 ∨ i = 2 ∨ i = 3 ∨ i = 4 ∨ i = 5 ∨ i = 6 ∨ i = 7 ∨ i = 8 ∨ i = 9 := by omega
  rcases this with rfl | rfl | rfl | rfl | rfl | rfl | rfl | rfl | rfl | rfl <;> exact ⟨rfl, by decide +kernel, by decide +kernel, Nat.le_refl _, by decide +kernel⟩
end
end
end Fx

/-! a, b, .. = .., each a value or a new list. -/
namespace Fx
open PySem L2
inductive Itm where
  | v (d : D) | n (ds : List D)
def cellOf : Itm → Addr → Cell
  | .v d, _ => .val d
  | .n ds, p => .own p ds
def One (G : Gx) (F H H0 : Hp) (O : Addr → Prop) : Itm → V → Addr → Prop
  | .v d, v, _ => Is G F d v
  | .n ds, v, p => v = .ref p ∧ H0 p = none ∧ ¬ O p ∧ F p = none ∧ ∃ ws, H p = some (.lst ws) ∧ IsAll G F ds ws
def EvO (G : Gx) (te : TE) (cs : List Cell) (R : Itm → List Cell → Prop) : Prop := ∀ (F : Hp) (σ : L2.St) (H : Hp) (Q : VK), Rel G F σ H cs →
  (∀ it cs' v p F' H', R it cs' → Stp F H (Owns cs) F' H' (Owns cs') → Rel G F' σ H' cs' → One G F' H' H (Owns cs') it v p → Q v H') → te σ H Q
def Dis (i1 : Itm) (p1 : Addr) (i2 : Itm) (p2 : Addr) : Prop := ∀ ds es, i1 = .n ds → i2 = .n es → p1 ≠ p2
section
variable {X : Cx} {G : Gx} {a b c e : Expr} {es : List Expr} {pos : Pos} {cs cs1 : List Cell} {d : D} {ds : List D} {P : Post} {te : TE}
theorem eo_v (h : Ev G te cs d cs1) : EvO G te cs fun it c => it = .v d ∧ c = cs1 := fun F σ H Q rl q => h F σ H Q rl fun v F1 H1 st r i => q (.v d) cs1 v 0 F1 H1 ⟨rfl, rfl⟩ st r i
theorem eo_vR {R : D → List Cell → Prop} (h : EvR G te cs R) : EvO G te cs fun it c => ∃ d, it = .v d ∧ R d c := fun F σ H Q rl q => h F σ H Q rl fun d c v F1 H1 hR st r i => q (.v d) c v 0 F1 H1 ⟨d, rfl, hR⟩ st r i
theorem eo_n (h : EvN G te cs ds cs1) : EvO G te cs fun it c => it = .n ds ∧ c = cs1 := fun F σ H Q rl q => h F σ H Q rl fun p vs F1 H1 st r h0 h1 h2 h3 h4 => q (.n ds) cs1 (.ref p) p F1 H1 ⟨rfl, rfl⟩ st r ⟨rfl, h0, h1, h3, vs, h2, h4⟩
theorem eo_nR {R : List D → List Cell → Prop} (h : EvNR G te cs R) : EvO G te cs fun it c => ∃ ds, it = .n ds ∧ R ds c := fun F σ H Q rl q => h F σ H Q rl fun ds c p vs F1 H1 hR st r h0 h1 h2 h3 h4 => q (.n ds) c (.ref p) p F1 H1 ⟨ds, rfl, hR⟩ st r ⟨rfl, h0, h1, h3, vs, h2, h4⟩
theorem EvO.mono {R R' : Itm → List Cell → Prop} (h : EvO G te cs R) (hR : ∀ it c, R it c → R' it c) : EvO G te cs R' := fun F σ H Q rl q => h F σ H Q rl fun it c v p F1 H1 r => q it c v p F1 H1 (hR it c r)
theorem One.step {F H F' H' H0 : Hp} {O O' : Addr → Prop} {it : Itm} {v : V} {p : Addr} (h : One G F H H0 O it v p) (s : Stp F H O F' H' O') : One G F' H' H0 O' it v p := by
  cases it with
  | v d => exact Is.mono s.fsub d h
  | n ds =>
    obtain ⟨h1, h2, h3, h4, ws, h5, h6⟩ := h
    exact ⟨h1, h2, not_owns_of s h5 h3, free_of s h4 h5 h3, ws, s.frame _ _ h5 h3, IsAll.mono s.fsub ds h6⟩
theorem One.back {F H H0 H1 : Hp} {O : Addr → Prop} {it : Itm} {v : V} {p : Addr} (h : One G F H H1 O it v p) (s : ∀ a, H1 a = none → H0 a = none) : One G F H H0 O it v p := by
  cases it with
  | v d => exact h
  | n ds =>
    obtain ⟨h1, h2, h3⟩ := h
    exact ⟨h1, s _ h2, h3⟩
theorem dis_of {F H H0 F' H' : Hp} {O O' : Addr → Prop} {i1 i2 : Itm} {v1 v2 : V} {p1 p2 : Addr} (h1 : One G F H H0 O i1 v1 p1) (h2 : One G F' H' H O' i2 v2 p2) : Dis i1 p1 i2 p2 := fun ds es e1 e2 z => by
  subst e1 e2
  obtain ⟨_, _, _, _, ws, a, _⟩ := h1
  obtain ⟨_, b, _⟩ := h2
  rw [z, b] at a
  cases a
/-- a name takes an item -/
theorem One.set {F H H0 : Hp} {σ : L2.St} {it : Itm} {v : V} {p : Addr} (i : Nat) (h : One G F H H0 (Owns cs) it v p) (r : Rel G F σ H cs) : Rel G F (σ.set i (some v)) H (cs.set i (cellOf it p)) := by
  cases it with
  | v d => exact r.setVal h
  | n ds =>
    obtain ⟨rfl, h2, h3, h4, ws, h5, h6⟩ := h
    exact r.setOwn h5 h4 h6 h3
theorem Owns.setc {i : Nat} {it : Itm} {p x : Addr} (h : Owns (cs.set i (cellOf it p)) x) : Owns cs x ∨ ((∃ ds, it = .n ds) ∧ x = p) := by
  rcases h.set with z | z
  · exact .inl z
  · cases it with
    | v d => exact False.elim z
    | n ds => exact .inr ⟨⟨ds, rfl⟩, z⟩
theorem One.past {F H H0 : Hp} {i1 i2 : Itm} {v2 : V} {p1 p2 : Addr} {i : Nat} (h : One G F H H0 (Owns cs) i2 v2 p2) (hd : Dis i1 p1 i2 p2) : One G F H H0 (Owns (cs.set i (cellOf i1 p1))) i2 v2 p2 := by
  cases i2 with
  | v d => exact h
  | n ds =>
    obtain ⟨h1, h2, h3, h4⟩ := h
    refine ⟨h1, h2, fun z => ?_, h4⟩
    rcases z.setc with z | ⟨⟨es, e⟩, z⟩
    · exact h3 z
    · exact hd es ds e rfl z.symm
theorem stp_items {F H F' H' : Hp} {O : Addr → Prop} {cs' : List Cell} (s : Stp F H O F' H' (Owns cs1)) (h : ∀ x, Owns cs' x → Owns cs1 x ∨ H x = none) : Stp F H O F' H' (Owns cs') :=
  ⟨s.fsub, s.frame, s.fresh, fun x z => by
    rcases h x z with y | y
    · exact s.own x y
    · exact .inr y, s.back⟩
theorem One.fresh {F H H0 : Hp} {O : Addr → Prop} {it : Itm} {v : V} {p : Addr} (h : One G F H H0 O it v p) (hn : ∃ ds, it = .n ds) : H0 p = none := by
  obtain ⟨ds, rfl⟩ := hn
  exact h.2.1
/-- x, y = a, b: both names local -/
theorem sx_par2 (i j : Nat) {n m : Str} {px py pt : Pos} {kt k2 pt2} {R1 : Itm → List Cell → Prop} {R2 : Itm → Itm → List Cell → Prop} (ha : EvO G (rdE X a) cs R1) (hb : ∀ i1 c, R1 i1 c → EvO G (rdE X b) c (R2 i1))
    (hp : ∀ i1 i2 c p q, R2 i1 i2 c → P.nx ((c.set i (cellOf i1 p)).set j (cellOf i2 q)))
    (hpar : ∀ {ta : TA}, PA X [a, b] ta → PS X (.Assign [.Tuple [.Name n px, .Name m py] kt pt] (.Tuple [a, b] k2 pt2) pos) (tPar i j ta)) (hs : starEach [a, b] X.env = (false, eval a X.env) :: starEach [b] X.env := by rfl) (hs2 : starEach [b] X.env = (false, eval b X.env) :: starEach [] X.env := by rfl) :
    Sx G (rdS X (.Assign [.Tuple [.Name n px, .Name m py] kt pt] (.Tuple [a, b] k2 pt2) pos)) cs P :=
  sx_of (hpar (pa_cons pe_rd (pa_cons pe_rd pa_nil hs2) hs)) fun F σ H E rl k1 _ _ _ _ => ha F σ H _ rl fun i1 c1 v1 p1 F1 H1 h1 st1 r1 o1 => hb i1 c1 h1 F1 σ H1 _ r1 fun i2 c2 v2 p2 F2 H2 h2 st2 r2 o2 => by
    have d12 := dis_of o1 o2
    have o1' := o1.step st2
    have o2' := o2.back (H0 := H) st1.back
    refine ⟨v1, v2, rfl, k1 _ _ F2 H2 (hp i1 i2 c2 p1 p2 h2) (stp_items (st1.trans st2) fun x hx => ?_) ((o2'.past d12).set j (o1'.set i r2))⟩
    rcases hx.setc with z | ⟨e, z⟩
    · rcases z.setc with z | ⟨e, z⟩
      · exact .inl z
      · rw [z]; exact .inr (o1'.fresh e)
    · rw [z]; exact .inr (o2'.fresh e)
/-- x, y = a, b by way of a tuple -/
theorem sx_tup2 (i j : Nat) {n m : Str} {px py pt : Pos} {kt k2 pt2} {R1 : Itm → List Cell → Prop} {R2 : Itm → Itm → List Cell → Prop} (ha : EvO G (rdE X a) cs R1) (hb : ∀ i1 c, R1 i1 c → EvO G (rdE X b) c (R2 i1))
    (hp : ∀ i1 i2 c p q, R2 i1 i2 c → P.nx ((c.set i (cellOf i1 p)).set j (cellOf i2 q)))
    (hc : X.calm = true) (hN : X.N.Nodup) (hi : X.N[i]? = some n) (hj : X.N[j]? = some m) (hx : Loc X.env.scope n) (hy : Loc X.env.scope m) (hf : X.fn n = true ∨ X.env.scope.names.lookup n = some .local) (hf2 : X.fn m = true ∨ X.env.scope.names.lookup m = some .local)
    (hs : starEach [a, b] X.env = (false, eval a X.env) :: starEach [b] X.env := by rfl) (hs2 : starEach [b] X.env = (false, eval b X.env) :: starEach [] X.env := by rfl)
    (hsw : swapsWithSole [.Tuple [.Name n px, .Name m py] kt pt] (.Tuple [a, b] k2 pt2) pos.line X.env = pure false := by rfl) (hw : swappedStores [.Tuple [.Name n px, .Name m py] kt pt] (.Tuple [a, b] k2 pt2) X.env = pure none := by rfl) (hK : G.K = X.K := by rfl) :
    Sx G (rdS X (.Assign [.Tuple [.Name n px, .Name m py] kt pt] (.Tuple [a, b] k2 pt2) pos)) cs P :=
  sx_of (ps_asg (pe_tup (pa_cons pe_rd (pa_cons pe_rd pa_nil hs2) hs)) (pg_tup hc (pgs_cons (pg_name hN hi hx hf) (pgs_cons (pg_name hN hj hy hf2) pgs_nil))) hsw hw) fun F σ H E rl k1 _ _ _ _ => ha F σ H _ rl fun i1 c1 v1 p1 F1 H1 h1 st1 r1 o1 => hb i1 c1 h1 F1 σ H1 _ r1 fun i2 c2 v2 p2 F2 H2 h2 st2 r2 o2 => by
    refine ⟨by show 2 ≤ sizeLine; decide, fun p hp0 => ?_⟩
    have g := grow_new (o := .tup [v1, v2]) r2.sub hp0
    have r3 := r2.grow g
    have st3 := st2.trans (g.stp (O := Owns c2))
    have d12 := dis_of o1 o2
    have o1' := o1.step st3
    have o2' := (o2.back (H0 := H) st1.back).step (g.stp (O := Owns c2))
    refine ⟨p, [v1, v2], rfl, SqT.of upd_same, rfl, v1, [v2], rfl, v2, [], rfl, rfl, ?_⟩
    refine k1 _ _ F2 _ (hp i1 i2 c2 p1 p2 h2) (stp_items (st1.trans st3) fun x hx => ?_) ((o2'.past d12).set j (o1'.set i r3))
    rcases hx.setc with z | ⟨e, z⟩
    · rcases z.setc with z | ⟨e, z⟩
      · exact .inl z
      · rw [z]; exact .inr (o1'.fresh e)
    · rw [z]; exact .inr (o2'.fresh e)
/-- x, y, z = a, b, c by way of a tuple -/
theorem sx_tup3 (i j l : Nat) {n m o : Str} {px py pz pt : Pos} {kt k2 pt2} {R1 : Itm → List Cell → Prop} {R2 : Itm → Itm → List Cell → Prop} {R3 : Itm → Itm → Itm → List Cell → Prop} (ha : EvO G (rdE X a) cs R1) (hb : ∀ i1 c, R1 i1 c → EvO G (rdE X b) c (R2 i1)) (hcc : ∀ i1 i2 c', R2 i1 i2 c' → EvO G (rdE X c) c' (R3 i1 i2))
    (hp : ∀ i1 i2 i3 c p q r, R3 i1 i2 i3 c → P.nx (((c.set i (cellOf i1 p)).set j (cellOf i2 q)).set l (cellOf i3 r)))
    (hc : X.calm = true) (hN : X.N.Nodup) (hi : X.N[i]? = some n) (hj : X.N[j]? = some m) (hl : X.N[l]? = some o) (hx : Loc X.env.scope n) (hy : Loc X.env.scope m) (hz : Loc X.env.scope o) (hf : X.fn n = true ∨ X.env.scope.names.lookup n = some .local) (hf2 : X.fn m = true ∨ X.env.scope.names.lookup m = some .local) (hf3 : X.fn o = true ∨ X.env.scope.names.lookup o = some .local)
    (hs : starEach [a, b, c] X.env = (false, eval a X.env) :: starEach [b, c] X.env := by rfl) (hs2 : starEach [b, c] X.env = (false, eval b X.env) :: starEach [c] X.env := by rfl) (hs3 : starEach [c] X.env = (false, eval c X.env) :: starEach [] X.env := by rfl)
    (hsw : swapsWithSole [.Tuple [.Name n px, .Name m py, .Name o pz] kt pt] (.Tuple [a, b, c] k2 pt2) pos.line X.env = pure false := by rfl) (hw : swappedStores [.Tuple [.Name n px, .Name m py, .Name o pz] kt pt] (.Tuple [a, b, c] k2 pt2) X.env = pure none := by rfl) (hK : G.K = X.K := by rfl) :
    Sx G (rdS X (.Assign [.Tuple [.Name n px, .Name m py, .Name o pz] kt pt] (.Tuple [a, b, c] k2 pt2) pos)) cs P :=
  sx_of (ps_asg (pe_tup (pa_cons pe_rd (pa_cons pe_rd (pa_cons pe_rd pa_nil hs3) hs2) hs)) (pg_tup hc (pgs_cons (pg_name hN hi hx hf) (pgs_cons (pg_name hN hj hy hf2) (pgs_cons (pg_name hN hl hz hf3) pgs_nil)))) hsw hw) fun F σ H E rl k1 _ _ _ _ => ha F σ H _ rl fun i1 c1 v1 p1 F1 H1 h1 st1 r1 o1 => hb i1 c1 h1 F1 σ H1 _ r1 fun i2 c2 v2 p2 F2 H2 h2 st2 r2 o2 => hcc i1 i2 c2 h2 F2 σ H2 _ r2 fun i3 c3 v3 p3 F3 H3 h3 st3 r3 o3 => by
    refine ⟨by show 3 ≤ sizeLine; decide, fun p hp0 => ?_⟩
    have g := grow_new (o := .tup [v1, v2, v3]) r3.sub hp0
    have r4 := r3.grow g
    have gs := g.stp (O := Owns c3)
    have st12 := st1.trans st2
    have d12 := dis_of o1 o2
    have d23 := dis_of o2 o3
    have d13 := dis_of (o1.step st2) o3
    have o1' := o1.step ((st2.trans st3).trans gs)
    have o2' := (o2.back (H0 := H) st1.back).step (st3.trans gs)
    have o3' := (o3.back (H0 := H) st12.back).step gs
    refine ⟨p, [v1, v2, v3], rfl, SqT.of upd_same, rfl, v1, [v2, v3], rfl, v2, [v3], rfl, v3, [], rfl, rfl, ?_⟩
    have e2 := o2'.past (i := i) d12
    have e3 := (o3'.past (i := i) d13).past (i := j) (i1 := i2) (p1 := p2) d23
    refine k1 _ _ F3 _ (hp i1 i2 i3 c3 p1 p2 p3 h3) (stp_items (st12.trans (st3.trans gs)) fun x hx => ?_) (e3.set l (e2.set j (o1'.set i r4)))
    rcases hx.setc with z | ⟨e, z⟩
    · rcases z.setc with z | ⟨e, z⟩
      · rcases z.setc with z | ⟨e, z⟩
        · exact .inl z
        · rw [z]; exact .inr (o1'.fresh e)
      · rw [z]; exact .inr (o2'.fresh e)
    · rw [z]; exact .inr (o3'.fresh e)
/-- x, y, z = a, b, c: all names local -/
theorem sx_par3 (i j l : Nat) {n m o : Str} {px py pz pt : Pos} {kt k2 pt2} {R1 : Itm → List Cell → Prop} {R2 : Itm → Itm → List Cell → Prop} {R3 : Itm → Itm → Itm → List Cell → Prop} (ha : EvO G (rdE X a) cs R1) (hb : ∀ i1 c, R1 i1 c → EvO G (rdE X b) c (R2 i1)) (hcc : ∀ i1 i2 c', R2 i1 i2 c' → EvO G (rdE X c) c' (R3 i1 i2))
    (hp : ∀ i1 i2 i3 c p q r, R3 i1 i2 i3 c → P.nx (((c.set i (cellOf i1 p)).set j (cellOf i2 q)).set l (cellOf i3 r)))
    (hpar : ∀ {ta : TA}, PA X [a, b, c] ta → PS X (.Assign [.Tuple [.Name n px, .Name m py, .Name o pz] kt pt] (.Tuple [a, b, c] k2 pt2) pos) (tPar3 i j l ta))
    (hs : starEach [a, b, c] X.env = (false, eval a X.env) :: starEach [b, c] X.env := by rfl) (hs2 : starEach [b, c] X.env = (false, eval b X.env) :: starEach [c] X.env := by rfl) (hs3 : starEach [c] X.env = (false, eval c X.env) :: starEach [] X.env := by rfl) :
    Sx G (rdS X (.Assign [.Tuple [.Name n px, .Name m py, .Name o pz] kt pt] (.Tuple [a, b, c] k2 pt2) pos)) cs P :=
  sx_of (hpar (pa_cons pe_rd (pa_cons pe_rd (pa_cons pe_rd pa_nil hs3) hs2) hs)) fun F σ H E rl k1 _ _ _ _ => ha F σ H _ rl fun i1 c1 v1 p1 F1 H1 h1 st1 r1 o1 => hb i1 c1 h1 F1 σ H1 _ r1 fun i2 c2 v2 p2 F2 H2 h2 st2 r2 o2 => hcc i1 i2 c2 h2 F2 σ H2 _ r2 fun i3 c3 v3 p3 F3 H3 h3 st3 r3 o3 => by
    have st12 := st1.trans st2
    have d12 := dis_of o1 o2
    have d23 := dis_of o2 o3
    have d13 := dis_of (o1.step st2) o3
    have o1' := o1.step (st2.trans st3)
    have o2' := (o2.back (H0 := H) st1.back).step st3
    have o3' := o3.back (H0 := H) st12.back
    have e2 := o2'.past (i := i) d12
    have e3 := (o3'.past (i := i) d13).past (i := j) (i1 := i2) (p1 := p2) d23
    refine ⟨v1, v2, v3, rfl, k1 _ _ F3 _ (hp i1 i2 i3 c3 p1 p2 p3 h3) (stp_items (st12.trans st3) fun x hx => ?_) (e3.set l (e2.set j (o1'.set i r3)))⟩
    rcases hx.setc with z | ⟨e, z⟩
    · rcases z.setc with z | ⟨e, z⟩
      · rcases z.setc with z | ⟨e, z⟩
        · exact .inl z
        · rw [z]; exact .inr (o1'.fresh e)
      · rw [z]; exact .inr (o2'.fresh e)
    · rw [z]; exact .inr (o3'.fresh e)
end
end Fx

/-! sorted of lists and of sets of tuples; a tuple's key: ints and the two words. -/
namespace Fx
open PySem L2 PyProof PyProof.Rows
abbrev Atm := Int ⊕ Bool
abbrev Ky := List Atm
def ltAt : Atm → Atm → Bool
  | .inl a, .inl b => decide (a < b)
  | .inr k, .inr j => k && !j
  | .inl _, .inr _ => true
  | .inr _, .inl _ => false
def lexK : Ky → Ky → Bool
  | [], [] => false
  | [], _ :: _ => true
  | _ :: _, [] => false
  | x :: xs, y :: ys => if x = y then lexK xs ys else ltAt x y
theorem ltAt_tri (x y : Atm) (h : x ≠ y) : ltAt x y = !ltAt y x := by
  cases x with
  | inl a =>
    cases y with
    | inl b =>
      have : a ≠ b := fun z => h (by rw [z])
      show decide (a < b) = !decide (b < a)
      by_cases e : a < b
      · rw [decide_eq_true e, decide_eq_false (by omega)]; rfl
      · rw [decide_eq_false e, decide_eq_true (by omega)]; rfl
    | inr k => rfl
  | inr k =>
    cases y with
    | inl b => rfl
    | inr j => cases k <;> cases j <;> first | rfl | exact absurd rfl h
theorem ltAt_irr (x : Atm) : ltAt x x = false := by
  cases x with
  | inl a => exact decide_eq_false (by omega)
  | inr k => cases k <;> rfl
theorem ltAt_tr {x y z : Atm} (h1 : ltAt x y = true) (h2 : ltAt y z = true) : ltAt x z = true := by
  cases x with
  | inl a =>
    cases y with
    | inl b =>
      cases z with
      | inl c =>
        have a1 : a < b := of_decide_eq_true h1
        have a2 : b < c := of_decide_eq_true h2
        exact decide_eq_true (by omega)
      | inr k => rfl
    | inr k =>
      cases z with
      | inl c => cases h2
      | inr k => rfl
  | inr k =>
    cases y with
    | inl b => cases h1
    | inr j =>
      cases z with
      | inl c => cases h2
      | inr i => cases k <;> cases j <;> cases i <;> first | rfl | exact absurd h1 (by decide) | exact absurd h2 (by decide)
theorem lexK_irr : ∀ x : Ky, lexK x x = false
  | [] => rfl
  | x :: xs => by
    show (if x = x then lexK xs xs else _) = false
    rw [if_pos rfl]; exact lexK_irr xs
theorem lexK_tri : ∀ x y : Ky, x ≠ y → lexK x y = !lexK y x
  | [], [], h => absurd rfl h
  | [], _ :: _, _ => rfl
  | _ :: _, [], _ => rfl
  | x :: xs, y :: ys, h => by
    show (if x = y then lexK xs ys else ltAt x y) = !(if y = x then lexK ys xs else ltAt y x)
    by_cases e : x = y
    · subst e
      rw [if_pos rfl, if_pos rfl]
      exact lexK_tri xs ys fun z => h (by rw [z])
    · rw [if_neg e, if_neg (Ne.symm e)]
      exact ltAt_tri x y e
theorem lexK_tr : ∀ {x y z : Ky}, lexK x y = true → lexK y z = true → lexK x z = true
  | _, _, [], _, h2 => by
    rename_i y _
    cases y <;> cases h2
  | [], _, _ :: _, _, _ => rfl
  | _ :: _, [], _, h1, _ => by cases h1
  | x :: xs, y :: ys, z :: zs, h1, h2 => by
    have a1 : (if x = y then lexK xs ys else ltAt x y) = true := h1
    have a2 : (if y = z then lexK ys zs else ltAt y z) = true := h2
    show (if x = z then lexK xs zs else ltAt x z) = true
    by_cases e1 : x = y
    · subst e1
      rw [if_pos rfl] at a1
      by_cases e2 : x = z
      · subst e2
        rw [if_pos rfl] at a2 ⊢
        exact lexK_tr a1 a2
      · rw [if_neg e2] at a2 ⊢
        exact a2
    · rw [if_neg e1] at a1
      by_cases e2 : y = z
      · subst e2
        rw [if_neg e1]
        exact a1
      · rw [if_neg e2] at a2
        have e3 : x ≠ z := fun w => by
          subst w
          rw [ltAt_tri x y e1, a2] at a1
          cases a1
        rw [if_neg e3]
        exact ltAt_tr a1 a2
theorem swoK {α : Type} (k : α → Ky) : SrtO.Swo fun x y => lexK (k x) (k y) := by
  refine ⟨fun x y h => ?_, fun x y z h1 h2 => ?_⟩
  · by_cases e : k x = k y
    · rw [e]; exact lexK_irr _
    · rw [lexK_tri _ _ (Ne.symm e), h]; rfl
  · by_cases e : k x = k y
    · rw [e]; exact h2
    · have h3 : lexK (k x) (k y) = true := by rw [lexK_tri _ _ e, h1]; rfl
      cases h : lexK (k z) (k x) with
      | false => rfl
      | true =>
        have := lexK_tr h h3
        rw [h2] at this
        cases this
/-! ### the sorted list -/
def insK (x : Ky) : List Ky → List Ky
  | [] => [x]
  | y :: l => if lexK y x = true then y :: insK x l else x :: y :: l
def srtK (ks : List Ky) : List Ky := ks.foldr insK []
def AscK (ks : List Ky) : Prop := ks.Pairwise fun x y => lexK y x = false
theorem insK_perm (x : Ky) : ∀ l : List Ky, (insK x l).Perm (x :: l)
  | [] => List.Perm.refl _
  | y :: l => by
    unfold insK
    split
    · exact ((insK_perm x l).cons y).trans (List.Perm.swap x y l)
    · exact List.Perm.refl _
theorem srtK_perm : ∀ ks : List Ky, (srtK ks).Perm ks
  | [] => List.Perm.refl _
  | x :: ks => (insK_perm x (srtK ks)).trans ((srtK_perm ks).cons x)
theorem lexK_le {x y z : Ky} (h1 : lexK y x = false) (h2 : lexK z y = false) : lexK z x = false := (swoK (fun k : Ky => k)).tr x y z h1 h2
theorem lexK_as {x y : Ky} (h : lexK x y = true) : lexK y x = false := (swoK (fun k : Ky => k)).asym x y h
theorem insK_asc (x : Ky) : ∀ {l : List Ky}, AscK l → AscK (insK x l)
  | [], _ => List.pairwise_singleton _ _
  | y :: l, h => by
    have hp := List.pairwise_cons.mp h
    unfold insK
    split
    · rename_i hl
      refine List.pairwise_cons.mpr ⟨fun z hz => ?_, insK_asc x hp.2⟩
      rcases List.mem_cons.mp ((insK_perm x l).mem_iff.mp hz) with rfl | hz
      · exact lexK_as hl
      · exact hp.1 z hz
    · rename_i hl
      have hl' : lexK y x = false := by
        cases q : lexK y x with
        | false => rfl
        | true => exact absurd q hl
      refine List.pairwise_cons.mpr ⟨fun z hz => ?_, h⟩
      rcases List.mem_cons.mp hz with rfl | hz
      · exact hl'
      · exact lexK_le hl' (hp.1 z hz)
theorem srtK_asc : ∀ ks : List Ky, AscK (srtK ks)
  | [] => List.Pairwise.nil
  | x :: ks => insK_asc x (srtK_asc ks)
theorem asc_uniq : ∀ {l m : List Ky}, l.Perm m → AscK l → AscK m → l = m
  | [], m, p, _, _ => (List.Perm.nil_eq p)
  | x :: l, [], p, _, _ => absurd p.symm (by intro q; cases List.Perm.nil_eq q)
  | x :: l, y :: m, p, h1, h2 => by
    have e : x = y := by
      by_cases z : x = y
      · exact z
      · have a1 : x ∈ m := by
          rcases List.mem_cons.mp (p.mem_iff.mp (List.mem_cons_self ..)) with w | w
          · exact absurd w z
          · exact w
        have a2 : y ∈ l := by
          rcases List.mem_cons.mp (p.mem_iff.mpr (List.mem_cons_self ..)) with w | w
          · exact absurd w.symm z
          · exact w
        have b1 := (List.pairwise_cons.mp h1).1 y a2
        have b2 := (List.pairwise_cons.mp h2).1 x a1
        have := lexK_tri x y z
        rw [b1, b2] at this
        cases this
    subst e
    rw [asc_uniq (List.Perm.cons_inv p) (List.pairwise_cons.mp h1).2 (List.pairwise_cons.mp h2).2]
theorem srtK_of {ks ms : List Ky} (p : ms.Perm ks) (h : AscK ms) : srtK ks = ms := asc_uniq ((srtK_perm ks).trans p.symm) (srtK_asc ks) h
/-! ### the sort's own comparisons -/
def atI : Atm → Value → Prop
  | .inl a, u => ∃ t, u = .int a t
  | .inr k, u => ∃ t, u = .str (Mt.kS k) t
def IsIt : Ky → List Value → Prop
  | [], us => us = []
  | x :: k, us => ∃ u r, us = u :: r ∧ atI x u ∧ IsIt k r
def Cpt : Ky → Ky → Prop
  | x :: xs, y :: ys => x.isLeft = y.isLeft ∧ Cpt xs ys
  | _, _ => True
theorem kS_lt (k j : Bool) : decide ((Mt.kS k).cps.toList < (Mt.kS j).cps.toList) = (k && !j) := by cases k <;> cases j <;> decide +kernel
section
variable {prog : Program} {w : World} {A : Around} {s : Shared}
theorem oneLt_kS (c k j : Bool) {t u : Tok} {Q : Bool → Shared → Prop} {E : Value → Shared → Prop} (h : Q (k && !j) s) : wpAny (model prog w) A (oneLt' c (.str (Mt.kS k) t) (.str (Mt.kS j) u)) Q E s := by
  rw [← kS_lt] at h
  cases c with
  | true => exact oneLt_str h
  | false => exact PySem.W.kat_one _ _ (PyProof.Rows.lt_str h)
theorem kat_keys : ∀ (k1 k2 : Ky) (us vs : List Value) (i : Nat), IsIt k1 us → IsIt k2 vs → Cpt k1 k2 → PySem.W.KatLex prog w A true (decide (k1.length < k2.length)) (fun r s' => s' = s ∧ r = lexK k1 k2) (us.zip vs) i s
  | [], k2, us, vs, i, h1, h2, _ => by
    cases h1
    refine PySem.W.kat_nil ⟨rfl, ?_⟩
    cases k2 with
    | nil => rfl
    | cons y ys => exact decide_eq_true (Nat.succ_pos _)
  | x :: xs, [], us, vs, i, h1, h2, _ => by
    cases h2
    rw [List.zip_nil_right]
    exact PySem.W.kat_nil ⟨rfl, decide_eq_false (by simp)⟩
  | x :: xs, y :: ys, us, vs, i, h1, h2, hc => by
    obtain ⟨u, r, rfl, hu, hr⟩ := h1
    obtain ⟨v, q, rfl, hv, hq⟩ := h2
    have fin : decide ((x :: xs).length < (y :: ys).length) = decide (xs.length < ys.length) := by
      simp only [List.length_cons]
      exact decide_eq_decide.mpr (by omega)
    have go : x = y → PySem.W.KatLex prog w A true (decide ((x :: xs).length < (y :: ys).length)) (fun r s' => s' = s ∧ r = lexK (x :: xs) (y :: ys)) (r.zip q) (i + 1) s := fun e => by
      rw [fin]
      have e2 : lexK (x :: xs) (y :: ys) = lexK xs ys := if_pos e
      rw [e2]
      exact kat_keys xs ys r q (i + 1) hr hq hc.2
    have no : x ≠ y → lexK (x :: xs) (y :: ys) = ltAt x y := fun e => if_neg e
    cases x with
    | inl a =>
      cases y with
      | inr j => exact absurd hc.1 (by intro z; cases z)
      | inl b =>
        obtain ⟨t, rfl⟩ := hu
        obtain ⟨t', rfl⟩ := hv
        refine PySem.W.kat_cons (SeqAt.EqAt.int_int a t b t' prog w _ _ ?_)
        refine PySem.W.kat_go (fun e1 => ?_) (fun e1 => ?_)
        · exact PySem.W.kat_yes (go (by rw [show a = b by simpa using e1]))
        · have e2 : (Sum.inl a : Atm) ≠ .inl b := fun z => by
            cases z
            simp at e1
          exact PySem.W.kat_no (TS.oneLt_ints _ ⟨rfl, (no e2).symm⟩)
    | inr k =>
      cases y with
      | inl b => exact absurd hc.1 (by intro z; cases z)
      | inr j =>
        obtain ⟨t, rfl⟩ := hu
        obtain ⟨t', rfl⟩ := hv
        refine PySem.W.kat_cons (SeqAt.EqAt.str_str (Mt.kS k) t (Mt.kS j) t' prog w _ _ ?_)
        refine PySem.W.kat_go (fun e1 => ?_) (fun e1 => ?_)
        · have e3 : Mt.kS k = Mt.kS j := by simpa using e1
          have e4 : k = j := by
            cases k <;> cases j <;> first | rfl | (exact absurd e3 (by decide +kernel))
          exact PySem.W.kat_yes (go (by rw [e4]))
        · have e2 : (Sum.inr k : Atm) ≠ .inr j := fun z => by
            cases z
            simp at e1
          exact PySem.W.kat_no (oneLt_kS _ k j ⟨rfl, (no e2).symm⟩)
/-- a tuple with this key -/
def IsKy (h : Heap) (v : Value) (k : Ky) : Prop := ∃ a o us n, v = .ref a ∧ h.get? a = some o ∧ o.cls = .type "tuple" ∧ o.data = .seq us n ∧ IsIt k us.toList
theorem IsKy.keeps {h h' : Heap} {v : Value} {k : Ky} (x : IsKy h v k) (kp : ∀ b o, h.get? b = some o → o.cls = .type "tuple" → h'.get? b = some o) : IsKy h' v k := by
  obtain ⟨a, o, us, n, e, ho, hc, hd, hi⟩ := x
  exact ⟨a, o, us, n, e, kp a o ho hc, hc, hd, hi⟩
theorem isIt_len : ∀ {k : Ky} {us : List Value}, IsIt k us → us.length = k.length
  | [], _, h => by cases h; rfl
  | x :: k, _, h => by
    obtain ⟨u, r, rfl, _, hr⟩ := h
    rw [List.length_cons, List.length_cons, isIt_len hr]
/-- all keys begin with an int, or all with a word; they can be compared place by place -/
structure FK (ks : List Ky) : Prop where
  hd : (∀ k ∈ ks, ∃ a r, k = .inl a :: r) ∨ (∀ k ∈ ks, ∃ b r, k = .inr b :: r)
  cp : ∀ k ∈ ks, ∀ j ∈ ks, Cpt k j
theorem keys_cmp {vs : List Value} {k : Value → Ky} (hp : ∀ v ∈ vs, IsKy s.heap v (k v)) (hc : ∀ v ∈ vs, ∀ u ∈ vs, Cpt (k v) (k u)) : SrtO.Cmp prog w A s (tuples' true) (fun p => p.1 ∈ vs) (SrtO.lt2 fun v u => lexK (k v) (k u)) := by
  intro p q hm hm'
  obtain ⟨a, o, us, n, e, ho, _, hd, hi⟩ := hp _ hm
  obtain ⟨a', o', us', n', e', ho', _, hd', hi'⟩ := hp _ hm'
  have hcc := hc _ hm _ hm'
  show wpAny (model prog w) A (keyLt' (tuples' true) p.1 q.1) (fun r s' => s' = s ∧ r = lexK (k p.1) (k q.1)) (fun _ _ => False) s
  generalize k p.1 = k1 at hi hcc ⊢
  generalize k q.1 = k2 at hi' hcc ⊢
  rw [e, e']
  refine PySem.W.kat_lt ho hd ho' hd' ?_
  have l1 := isIt_len hi
  have l2 := isIt_len hi'
  rw [Array.length_toList] at l1 l2
  rw [l1, l2]
  exact kat_keys k1 k2 _ _ 0 hi hi' hcc
theorem firsts_keys {h : Heap} {T : Value} : ∀ (vs : List Value), (∀ v ∈ vs, ∃ a o us n f, v = Value.ref a ∧ h.get? a = some o ∧ o.cls = .type "tuple" ∧ o.data = .seq us n ∧ us[0]? = some f ∧ PySem.W.Looks (model prog w) h (typeOf f) T) → ∃ fs, PySem.W.KatTups h vs fs ∧ fs.length = vs.length ∧ ∀ f, f ∈ fs → PySem.W.Looks (model prog w) h (typeOf f) T
  | [], _ => ⟨[], .nil, rfl, fun f hf => by cases hf⟩
  | v :: vs, h => by
    obtain ⟨fs, a1, a2, a3⟩ := firsts_keys vs fun u hu => h u (List.mem_cons_of_mem _ hu)
    obtain ⟨a, o, us, n, f, rfl, ho, hc, hd, hf, hl⟩ := h v (List.mem_cons_self ..)
    refine ⟨f :: fs, .cons ho hc hd hf a1, by rw [List.length_cons, List.length_cons, a2], fun g hg => ?_⟩
    rcases List.mem_cons.mp hg with rfl | hg
    · exact hl
    · exact a3 g hg
theorem keys_sortable {a : Addr} {vs : List Value} {k : Value → Ky} (h0 : 0 < vs.length) (hp : ∀ v ∈ vs, IsKy s.heap v (k v)) (hk : FK (vs.map k)) (ha : ∀ o, s.heap.get? a = some o → o.cls ≠ .type "tuple") : SrtO.SortableO prog w A s a vs fun v u => lexK (k v) (k u) := by
  intro h' keep
  have hp' : ∀ v ∈ vs, IsKy h' v (k v) := fun v hm => (hp v hm).keeps fun b o e c => keep b o (fun z => by subst z; exact ha o e c) e
  have hc : ∀ v ∈ vs, ∀ u ∈ vs, Cpt (k v) (k u) := fun v hv u hu => hk.cp _ (List.mem_map.mpr ⟨v, hv, rfl⟩) _ (List.mem_map.mpr ⟨u, hu, rfl⟩)
  refine ⟨tuples' true, fun Q E hq => ?_, keys_cmp hp' hc⟩
  have look : ∀ (T : Value), (∀ v ∈ vs, ∃ a o us n f, v = Value.ref a ∧ h'.get? a = some o ∧ o.cls = .type "tuple" ∧ o.data = .seq us n ∧ us[0]? = some f ∧ PySem.W.Looks (model prog w) h' (typeOf f) T) → (T == T) = true → (T != Value.type "tuple") = true → wpAny (model prog w) A (keyKind' vs.toArray) Q E { s with heap := h' } := fun T hT e1 e2 => by
    obtain ⟨fs, a1, a2, a3⟩ := firsts_keys (prog := prog) (w := w) (T := T) vs hT
    refine PySem.W.kat_kind (T := T) a1 (by omega) a3 e1 ?_
    rw [e2]
    exact hq
  have first : ∀ v ∈ vs, ∀ x r, k v = x :: r → ∃ a o us n f, v = Value.ref a ∧ h'.get? a = some o ∧ o.cls = .type "tuple" ∧ o.data = .seq us n ∧ us[0]? = some f ∧ atI x f := fun v hv x r e => by
    obtain ⟨a, o, us, n, e1, ho, hc, hd, hi⟩ := hp' v hv
    rw [e] at hi
    obtain ⟨u, q, e2, hu, _⟩ := hi
    exact ⟨a, o, us, n, u, e1, ho, hc, hd, by rw [← Array.getElem?_toList, e2]; rfl, hu⟩
  rcases hk.hd with hh | hh
  · refine look (.type "int") (fun v hv => ?_) (by rfl) (by first | decide +kernel | rfl | decide)
    obtain ⟨x, r, e⟩ := hh _ (List.mem_map.mpr ⟨v, hv, rfl⟩)
    obtain ⟨a, o, us, n, f, b1, b2, b3, b4, b5, t, rfl⟩ := first v hv _ r e
    exact ⟨a, o, us, n, _, b1, b2, b3, b4, b5, PySem.W.Looks.now⟩
  · refine look (.type "str") (fun v hv => ?_) (by rfl) (by first | decide +kernel | rfl | decide)
    obtain ⟨x, r, e⟩ := hh _ (List.mem_map.mpr ⟨v, hv, rfl⟩)
    obtain ⟨a, o, us, n, f, b1, b2, b3, b4, b5, t, rfl⟩ := first v hv _ r e
    exact ⟨a, o, us, n, _, b1, b2, b3, b4, b5, PySem.W.Looks.now⟩
theorem not_tup_list {vs : Array Value} {o : Obj} {h : Heap} {a : Addr} {n : Nat} (ha : h.get? a = some (seqObj "list" vs n)) (e : h.get? a = some o) : o.cls ≠ .type "tuple" := by
  have e' := e.symm.trans ha
  cases e'
  intro c
  exact absurd (Value.type.inj c) (by decide)
end
/-- a list in another order, told by what it is made of -/
theorem perm_lift {α β : Type} {f : α → β} {l m : List β} (p : l.Perm m) : ∀ ps : List α, m = ps.map f → ∃ qs : List α, qs.Perm ps ∧ l = qs.map f := by
  induction p with
  | nil =>
    intro ps e
    exact ⟨[], by rw [List.map_eq_nil_iff.mp e.symm], rfl⟩
  | cons x p ih =>
    intro ps e
    cases ps with
    | nil => cases e
    | cons a ps =>
      rw [List.map_cons] at e
      injection e with e1 e2
      obtain ⟨qs, h1, h2⟩ := ih ps e2
      exact ⟨a :: qs, h1.cons a, by rw [List.map_cons, ← e1, h2]⟩
  | swap x y l =>
    intro ps e
    match ps, e with
    | a :: b :: ps, e =>
      rw [List.map_cons, List.map_cons] at e
      injection e with e1 e2
      injection e2 with e2 e3
      exact ⟨b :: a :: ps, .swap a b ps, by rw [List.map_cons, List.map_cons, ← e1, ← e2, e3]⟩
  | trans _ _ ih1 ih2 =>
    intro ps e
    obtain ⟨qs, h1, h2⟩ := ih2 ps e
    obtain ⟨rs, h3, h4⟩ := ih1 qs h2
    exact ⟨rs, h3.trans h1, h4⟩
/-! ### by the layer's heaps -/
def atV : Atm → V
  | .inl a => .int a
  | .inr k => .str (Mt.kS k)
theorem isIt_of : ∀ {k : Ky} {us : List Value}, Vals (k.map atV) us → IsIt k us
  | [], _, h => by cases h; rfl
  | x :: k, _, h => by
    cases h with
    | cons r rs =>
      refine ⟨_, _, rfl, ?_, isIt_of rs⟩
      cases x with
      | inl a => exact r
      | inr b => exact r
section
variable {X : Cx}
theorem key_of {pins : List (Addr × Obj)} {σ : L2.St} {H : Hp} {s : Shared} {b : Addr} {k : Ky} (I : Inv X pins σ H s) (h : SqT X.K H b (k.map atV)) : IsKy s.heap (.ref b) k := by
  obtain ⟨its, rv, ⟨o, ho, hc, n, hd⟩, _⟩ := I.tuple h
  exact ⟨b, o, _, n, rfl, ho, hc, hd, by simpa using isIt_of rv⟩
theorem atV_inj {k j : Ky} (h : k.map atV = j.map atV) : k = j := by
  induction k generalizing j with
  | nil => cases j with
    | nil => rfl
    | cons y j => cases h
  | cons x k ih =>
    cases j with
    | nil => cases h
    | cons y j =>
      rw [List.map_cons, List.map_cons] at h
      injection h with h1 h2
      rw [ih h2]
      congr 1
      cases x with
      | inl a =>
        cases y with
        | inl b => injection h1 with h1; rw [h1]
        | inr b => cases h1
      | inr a =>
        cases y with
        | inl b => cases h1
        | inr b =>
          injection h1 with h1
          cases a <;> cases b <;> first | rfl | (exact absurd h1 (by decide +kernel))
def keyAt (ps : List (Addr × Ky)) : Value → Ky
  | .ref b => ((ps.find? fun p => decide (p.1 = b)).map (·.2)).getD []
  | _ => []
theorem keyAt_mem {pins : List (Addr × Obj)} {σ : L2.St} {H : Hp} {s : Shared} {ps : List (Addr × Ky)} (I : Inv X pins σ H s) (hk : ∀ p ∈ ps, SqT X.K H p.1 (p.2.map atV)) {p : Addr × Ky} (hp : p ∈ ps) : keyAt ps (.ref p.1) = p.2 := by
  show ((ps.find? fun q => decide (q.1 = p.1)).map (·.2)).getD [] = p.2
  cases e : ps.find? fun q => decide (q.1 = p.1) with
  | none =>
    have := List.find?_eq_none.mp e p hp
    simp at this
  | some q =>
    have h1 := List.mem_of_find?_eq_some e
    have h2 : q.1 = p.1 := by simpa using List.find?_some e
    have a1 := hk q h1
    rw [h2] at a1
    show q.2 = p.2
    exact atV_inj (I.tuple_inj a1 (hk p hp))
def refsP (ps : List (Addr × Ky)) : List V := ps.map fun p => V.ref p.1
theorem refs_vals : ∀ {ps : List (Addr × Ky)} {us : List Value}, Vals (refsP ps) us → us = ps.map fun p => Value.ref p.1
  | [], _, h => by cases h; rfl
  | p :: ps, _, h => by
    cases h with
    | cons r rs =>
      rw [refs_vals rs]
      cases r
      rfl
theorem vals_refs : ∀ ps : List (Addr × Ky), Vals (refsP ps) (ps.map fun p => Value.ref p.1)
  | [] => .nil
  | p :: ps => .cons rfl (vals_refs ps)
theorem out_keys {pins : List (Addr × Obj)} {σ : L2.St} {H : Hp} {s : Shared} {ps : List (Addr × Ky)} {out : List Value} (I : Inv X pins σ H s) (hk : ∀ p ∈ ps, SqT X.K H p.1 (p.2.map atV)) (h1 : SrtO.Srtd (fun v u => lexK (keyAt ps v) (keyAt ps u)) out) (h2 : out.Perm (ps.map fun p => Value.ref p.1)) :
    ∃ qs : List (Addr × Ky), qs.Perm ps ∧ out = qs.map (fun p => Value.ref p.1) ∧ AscK (qs.map (·.2)) := by
  obtain ⟨qs, p1, e⟩ := perm_lift h2 ps rfl
  refine ⟨qs, p1, e, ?_⟩
  subst e
  refine List.pairwise_map.mpr (List.Pairwise.imp_of_mem (fun {q r} hq hr h => ?_) (List.pairwise_map.mp h1))
  have h' : lexK (keyAt ps (.ref r.1)) (keyAt ps (.ref q.1)) = false := h
  rw [keyAt_mem I hk (p1.mem_iff.mp hq), keyAt_mem I hk (p1.mem_iff.mp hr)] at h'
  exact h'
theorem fk_keys {pins : List (Addr × Obj)} {σ : L2.St} {H : Hp} {s : Shared} {ps : List (Addr × Ky)} {vs : List Value} (I : Inv X pins σ H s) (hk : ∀ p ∈ ps, SqT X.K H p.1 (p.2.map atV)) (fk : FK (ps.map (·.2))) (hv : ∀ v ∈ vs, ∃ p ∈ ps, v = .ref p.1) : FK (vs.map (keyAt ps)) := by
  have hm : ∀ k ∈ vs.map (keyAt ps), k ∈ ps.map (·.2) := fun k hk' => by
    obtain ⟨v, hv', rfl⟩ := List.mem_map.mp hk'
    obtain ⟨p, hp, rfl⟩ := hv v hv'
    rw [keyAt_mem I hk hp]
    exact List.mem_map.mpr ⟨p, hp, rfl⟩
  exact ⟨fk.hd.imp (fun h k hk' => h k (hm k hk')) (fun h k hk' => h k (hm k hk')), fun k h1 j h2 => fk.cp k (hm k h1) j (hm j h2)⟩
def rSortedK (K : PySem.W.Frag) : List V → Hp → VK → Prop := fun vs H Q => ∃ (a : Addr) (ps : List (Addr × Ky)), vs = [V.ref a] ∧ SqL K H a (refsP ps) ∧ (∀ p ∈ ps, SqT K H p.1 (p.2.map atV)) ∧ FK (ps.map (·.2)) ∧
  ∀ (qs : List (Addr × Ky)) (p : Addr), qs.Perm ps → AscK (qs.map (·.2)) → H p = none → Q (.ref p) (upd H p (.lst (refsP qs)))
theorem cr_sortedK : CallR X (.builtin "sorted") (rSortedK X.K) := by
  intro pins s σ H vs us Q I r h
  obtain ⟨a, ps, rfl, hs, hk, fk, q⟩ := h
  obtain ⟨its, rv, hl, hz⟩ := I.list hs
  rw [Vals.ref1 r]
  have ei := refs_vals rv
  have hv : ∀ v ∈ its, ∃ p ∈ ps, v = Value.ref p.1 := fun v hv => by
    rw [ei] at hv
    obtain ⟨p, hp, e⟩ := List.mem_map.mp hv
    exact ⟨p, hp, e.symm⟩
  have hky : ∀ v ∈ its, IsKy s.heap v (keyAt ps v) := fun v hv' => by
    obtain ⟨p, hp, rfl⟩ := hv v hv'
    rw [keyAt_mem I hk hp]
    exact key_of I (hk p hp)
  refine SrtO.sorted_ord (swoK (keyAt ps)) hl.isList (by rw [← rv.length]; exact hz) (fun h2 h₁ b hb kk => keys_sortable (s := { s with heap := h₁ }) (by omega) (fun v hm => (hky v hm).keeps fun c o e _ => (kk c o e).2) (fk_keys I hk fk hv) fun o e => not_tup_list hb e) fun out h1 h2 => ?_
  obtain ⟨qs, p1, e1, h3⟩ := out_keys I hk h1 (by rw [← ei]; exact h2.perm)
  obtain ⟨n, hn⟩ := sortedAll_at s.heap its out.toArray
  have hd : s.heap.objs.size ≤ s.heap.objs.size + 1 := Nat.le_succ _
  refine ⟨.ref (s.heap.objs.size + 1), upd H (s.heap.objs.size + 1) (.lst (refsP qs)), I.laid (t' := s.toks) (fun b o e => sortedAll_old e) hd ⟨?_, out, n, by rw [e1]; exact vals_refs qs, hn⟩, rfl, q qs _ p1 h3 (I.hok.fresh hd)⟩
  have : (refsP qs).length = its.length := by rw [refsP, List.length_map, p1.length_eq, ei, List.length_map]
  rw [this, ← rv.length]
  exact hz
end
end Fx

/-! sorted(set(xs)), sorted(xs) of tuples, by data. -/
namespace Fx
open PySem L2 PyProof PyProof.Rows
section
variable {X : Cx}
abbrev kyI (ns : List Int) : Ky := ns.map .inl
theorem kyI_atV (ns : List Int) : (kyI ns).map atV = ns.map V.int := by
  unfold kyI
  rw [List.map_map]
  rfl
theorem kyI_inj {ns ms : List Int} (h : kyI ns = kyI ms) : ns = ms := (List.map_inj_right fun a b e => by injection e).mp h
theorem cpt_int : ∀ ns ms : List Int, Cpt (kyI ns) (kyI ms)
  | [], _ => by cases ‹List Int› <;> trivial
  | _ :: _, [] => trivial
  | _ :: ns, _ :: ms => ⟨rfl, cpt_int ns ms⟩
theorem fk_int {nss : List (List Int)} (h : ∀ ns ∈ nss, ns ≠ []) : FK (nss.map kyI) := by
  refine ⟨.inl fun k hk => ?_, fun k hk j hj => ?_⟩
  · obtain ⟨ns, hn, rfl⟩ := List.mem_map.mp hk
    cases ns with
    | nil => exact absurd rfl (h [] hn)
    | cons a r => exact ⟨a, kyI r, rfl⟩
  · obtain ⟨ns, _, rfl⟩ := List.mem_map.mp hk
    obtain ⟨ms, _, rfl⟩ := List.mem_map.mp hj
    exact cpt_int ns ms
def rSortedS (K : PySem.W.Frag) (P : Program) (w : World) : List V → Hp → VK → Prop := fun vs H Q => ∃ (a : Addr) (L : List (Addr × List Int)), vs = [V.ref a] ∧ H a = some (SetTO P w a L) ∧ (∀ p ∈ L, SqT K H p.1 (p.2.map V.int)) ∧ (∀ p ∈ L, p.2 ≠ []) ∧
  ∀ (qs : List (Addr × Ky)) (p : Addr), qs.Perm (L.map fun p => (p.1, kyI p.2)) → AscK (qs.map (·.2)) → (L.map (·.2)).Nodup → H p = none → Q (.ref p) (upd H p (.lst (refsP qs)))
theorem cr_sortedS (hc : X.calm = true) : CallR X (.builtin "sorted") (rSortedS X.K X.prog X.w) := by
  intro pins s σ H vs us Q I r h
  obtain ⟨a, L, rfl, ha, hk, hne, q⟩ := h
  have R0 : SetT0 X.prog X.w s.heap a L := (I.hok a _ ha).1
  obtain ⟨es, ep, t, R⟩ := R0.full fun p hp => I.isT (hk p hp)
  rw [Vals.ref1 r]
  obtain ⟨o, ho, hex, hd⟩ := R.ob
  have hsz := R.size
  have hfew := R.few
  let ps : List (Addr × Ky) := L.map fun p => (p.1, kyI p.2)
  have hkp : ∀ p ∈ ps, SqT X.K H p.1 (p.2.map atV) := fun p hp => by
    obtain ⟨z, hz, rfl⟩ := List.mem_map.mp hp
    show SqT X.K H z.1 ((kyI z.2).map atV)
    rw [kyI_atV]
    exact hk z hz
  have fk : FK (ps.map (·.2)) := by
    have e : ps.map (·.2) = (L.map (·.2)).map kyI := by
      show (L.map fun p => (p.1, kyI p.2)).map (·.2) = _
      rw [List.map_map, List.map_map]
      rfl
    rw [e]
    refine fk_int fun ns hn => ?_
    obtain ⟨z, hz, rfl⟩ := List.mem_map.mp hn
    exact hne z hz
  refine Calls.call_function_entry kind_sorted plain_sorted entry_sorted (args_sorted1 _) (by
    unfold Builtin.«sorted»
    refine wpAny_bind (m := checkCount "sorted" 1 1 _) (wpAny_pure (wpAny_bind (collect_set (A := X.A.in1) (I.ok.hd hc) ⟨o, ho, hex.1, hd⟩ R.fits (by unfold scanBound; omega) R.tab.ris R.led fun s1 vs k1 hz g1 o1 pm => ?_)))
    have pm2 : vs.Perm (ps.map fun p => Value.ref p.1) := by
      have e : es.toList.map (·.2) = ps.map fun p => Value.ref p.1 := by
        rw [R.rows]
        show (rowsOf X.prog X.w L).map (·.2) = (L.map fun p => (p.1, kyI p.2)).map fun p => Value.ref p.1
        unfold rowsOf
        rw [List.map_map, List.map_map]
        rfl
      rw [e] at pm
      exact pm
    have hvl : vs.length < 64 := by rw [pm2.length_eq, List.length_map, List.length_map]; exact hfew
    have hv : ∀ v ∈ vs, ∃ p ∈ ps, v = Value.ref p.1 := fun v hv => by
      obtain ⟨p, hp, e⟩ := List.mem_map.mp (pm2.mem_iff.mp hv)
      exact ⟨p, hp, e.symm⟩
    refine wpAny_bind (wpAny_newList ?_ (by rw [sizeLine_eq]; omega))
    have hoL : (s1.heap.push (seqObj "list" vs.toArray 0)).get? s1.heap.objs.size = some (seqObj "list" vs.toArray 0) := Heap.get?_push_size _ rfl
    have hky : ∀ v ∈ vs, IsKy (s1.heap.push (seqObj "list" vs.toArray 0)) v (keyAt ps v) := fun v hv' => by
      obtain ⟨p, hp, rfl⟩ := hv v hv'
      rw [keyAt_mem I hkp hp]
      exact (key_of I (hkp p hp)).keeps fun b u e _ => Heap.get?_push_of_some _ (k1 b u e)
    refine wpAny_bind (wpAny_holding (wpAny_call_entry slot_list_sort ⟨_, hoL, rfl⟩ entry_list_sort (SrtO.list_sort_ord (s := { s1 with heap := s1.heap.push (seqObj "list" vs.toArray 0) }) (swoK (keyAt ps)) hoL (by rw [sizeLine_eq]; omega) (fun h2 => keys_sortable (by omega) hky (fk_keys I hkp fk hv) fun o e => not_tup_list hoL e) fun out hs hb => ⟨_, rfl, ?_⟩) (args_list_sort _)))
    obtain ⟨qs, p1, e1, h3⟩ := out_keys I hkp hs (hb.perm.trans pm2)
    obtain ⟨c, hcc⟩ := sortedHeap_at (vs := vs) (out := out.toArray) hoL
    refine wpAny_pure ⟨_, rfl, ?_⟩
    have kall : ∀ b u, s.heap.get? b = some u → (sortedHeap (s1.heap.push (seqObj "list" vs.toArray 0)) s1.heap.objs.size vs out.toArray).get? b = some u := fun b u e => by
      have q1 := k1 b u e
      have hlt := Heap.lt_size q1
      rw [sortedHeap_old (Nat.ne_of_lt hlt) (by rw [size_push']; exact Nat.lt_succ_of_lt hlt)]
      exact Heap.get?_push_of_some _ q1
    have hlen : (refsP qs).length ≤ sizeLine := by
      rw [refsP, List.length_map, p1.length_eq, List.length_map, sizeLine_eq]
      omega
    have hn : H s1.heap.objs.size = none := I.hok.fresh hz
    have J : Inv X pins σ (upd H s1.heap.objs.size (.lst (refsP qs))) { s with heap := sortedHeap (s1.heap.push (seqObj "list" vs.toArray 0)) s1.heap.objs.size vs out.toArray, gens := s1.gens, drawn := s1.drawn, toks := s1.toks } :=
      I.call (ch := []) (Un.laid kall hz hn) (I.hok.laid kall hz ⟨hlen, out, c, by rw [e1]; exact vals_refs qs, hcc⟩) (by rw [g1]; exact I.bare) (fun _ z => nomatch z)
    have e : ({ s1 with heap := sortedHeap (s1.heap.push (seqObj "list" vs.toArray 0)) s1.heap.objs.size vs out.toArray } : Shared) = { s with heap := sortedHeap (s1.heap.push (seqObj "list" vs.toArray 0)) s1.heap.objs.size vs out.toArray, gens := s1.gens, drawn := s1.drawn, toks := s1.toks } := by
      cases s1
      cases s
      cases o1
      rfl
    rw [e]
    exact ⟨.ref s1.heap.objs.size, _, J, rfl, q qs _ p1 h3 R.nd hn⟩)
end
/-! ### by data -/
def atD : Atm → D
  | .inl a => .int a
  | .inr k => .str (Mt.kS k)
def kyD (k : Ky) : D := .tup (k.map atD)
section
variable {X : Cx} {G : Gx} {e : Expr} {pos p1 p2 q2 : Pos} {cs cs1 : List Cell}
theorem isAll_atm {F : Hp} : ∀ {k : Ky} {vs : List V}, IsAll G F (k.map atD) vs → vs = k.map atV
  | [], _, h => h
  | x :: k, _, h => by
    obtain ⟨v, r, rfl, h1, h2⟩ := h
    rw [isAll_atm h2]
    cases x with
    | inl a => cases h1; rfl
    | inr a => cases h1; rfl
theorem atm_isAll {F : Hp} : ∀ k : Ky, IsAll G F (k.map atD) (k.map atV)
  | [] => rfl
  | x :: k => ⟨_, _, rfl, by cases x <;> rfl, atm_isAll k⟩
theorem isAll_keys {F : Hp} : ∀ {ks : List Ky} {vs : List V}, IsAll G F (ks.map kyD) vs → ∃ ps : List (Addr × Ky), vs = refsP ps ∧ ps.map (·.2) = ks ∧ ∀ p ∈ ps, SqT G.K F p.1 (p.2.map atV)
  | [], _, h => ⟨[], h, rfl, fun p hp => by cases hp⟩
  | k :: ks, _, h => by
    obtain ⟨v, r, rfl, ⟨a, xs, rfl, h1, h2⟩, h3⟩ := h
    obtain ⟨ps, rfl, h4, h5⟩ := isAll_keys h3
    have ex := isAll_atm h2
    subst ex
    refine ⟨(a, k) :: ps, rfl, by rw [List.map_cons, h4], fun p hp => ?_⟩
    rcases List.mem_cons.mp hp with rfl | hp
    · exact h1
    · exact h5 p hp
theorem keys_isAll {F : Hp} : ∀ (ps : List (Addr × Ky)), (∀ p ∈ ps, SqT G.K F p.1 (p.2.map atV)) → IsAll G F ((ps.map (·.2)).map kyD) (refsP ps)
  | [], _ => rfl
  | p :: ps, h => ⟨_, _, rfl, ⟨p.1, _, rfl, h p (List.mem_cons_self ..), atm_isAll p.2⟩, keys_isAll ps fun q hq => h q (List.mem_cons_of_mem _ hq)⟩
/-- sorted(xs) -/
theorem evn_sortedK {ks : List Ky} (ha : Ev G (rdE X e) cs (.lst (ks.map kyD)) cs1) (fk : FK ks) (g1 : Gl X "sorted") (m1 : X.mg "sorted" = none) (hK : G.K = X.K := by rfl) (hs : starEach [e] X.env = (false, eval e X.env) :: starEach [] X.env := by rfl) (hpl : (backTo pos (starEach [] X.env)).any (·.1) = false := by rfl) :
    EvN G (rdE X (.Call (.Name "sorted" p1) [e] [] pos)) cs ((srtK ks).map kyD) cs1 := by
  refine evn_of (pe_callB cr_sortedK g1 m1 (by decide +kernel) (pa_cons pe_rd pa_nil hs) (by decide) (by decide) hs hpl) ?_
  intro F σ H Q rl q
  refine ha F σ H _ rl fun v F1 H1 st1 r1 q1 => ?_
  obtain ⟨a, vs, rfl, h1, h2⟩ := q1
  obtain ⟨ps, rfl, e2, h3⟩ := isAll_keys h2
  subst e2
  rw [← hK]
  refine ⟨a, ps, rfl, SqL.of (r1.sub _ _ h1), fun p hp => same_t r1.sub (h3 p hp), fk, fun qs p pm asc hp => ?_⟩
  have e3 : srtK (ps.map (·.2)) = qs.map (·.2) := srtK_of (pm.map _) asc
  refine evn_new st1 rl r1 q p _ hp ?_
  rw [e3]
  exact keys_isAll qs fun z hz => h3 z (pm.mem_iff.mp hz)
/-- .. of a set -/
theorem ints_keys {F : Hp} : ∀ {nss : List (List Int)} {vs : List V}, IsAll G F (nss.map fun ns => .tup (ns.map .int)) vs → ∃ L : List (Addr × List Int), vs = L.map (fun p => V.ref p.1) ∧ L.map (·.2) = nss ∧ ∀ p ∈ L, SqT G.K F p.1 (p.2.map V.int)
  | [], _, h => ⟨[], h, rfl, fun p hp => by cases hp⟩
  | k :: ks, _, h => by
    obtain ⟨v, r, rfl, ⟨a, xs, rfl, h1, h2⟩, h3⟩ := h
    obtain ⟨L, rfl, h4, h5⟩ := ints_keys h3
    have ex := ints_vals h2
    subst ex
    refine ⟨(a, k) :: L, rfl, by rw [List.map_cons, h4], fun p hp => ?_⟩
    rcases List.mem_cons.mp hp with rfl | hp
    · exact h1
    · exact h5 p hp
/-- ascending, each once -/
structure SetOf (nss ms : List (List Int)) : Prop where
  asc : AscK (ms.map kyI)
  nd : ms.Nodup
  mem : ∀ x, x ∈ ms ↔ x ∈ nss
theorem SetOf.uniq {nss ms ms' : List (List Int)} (h : SetOf nss ms) (h' : SetOf nss ms') : ms = ms' := by
  have p : ms.Perm ms' := (List.perm_ext_iff_of_nodup h.nd h'.nd).mpr fun x => (h.mem x).trans (h'.mem x).symm
  have e := asc_uniq (p.map kyI) h.asc h'.asc
  exact (List.map_inj_right fun a b e => kyI_inj e).mp e
theorem evn_sortSetT {nss ms : List (List Int)} (ha : Ev G (rdE X e) cs (.lst (nss.map fun ns => .tup (ns.map .int))) cs1) (hz : nss.length < 64) (hne : ∀ ns ∈ nss, ns ≠ []) (hset : SetOf nss ms) (hc : X.calm = true) (hu : X.A.units + 64 < cLine) (g1 : Gl X "sorted") (m1 : X.mg "sorted" = none) (g2 : Gl X "set") (m2 : X.mg "set" = none) (hK : G.K = X.K := by rfl) (hs : starEach [e] X.env = (false, eval e X.env) :: starEach [] X.env := by rfl) (hpl : (backTo q2 (starEach [] X.env)).any (·.1) = false := by rfl)
    (hs2 : starEach [.Call (.Name "set" p2) [e] [] q2] X.env = (false, eval (.Call (.Name "set" p2) [e] [] q2) X.env) :: starEach [] X.env := by rfl) (hpl2 : (backTo pos (starEach [] X.env)).any (·.1) = false := by rfl) :
    EvN G (rdE X (.Call (.Name "sorted" p1) [.Call (.Name "set" p2) [e] [] q2] [] pos)) cs (ms.map fun ns => .tup (ns.map .int)) cs1 := by
  refine evn_of (pe_callB (cr_sortedS hc) g1 m1 (by decide +kernel) (pa_cons (pe_callTy (cr_setOfT hc hu) g2 m2 PyProof.Rows.boot_set (pa_cons pe_rd pa_nil hs) (by decide) (by decide) hs hpl) pa_nil hs2) (by decide) (by decide) hs2 hpl2) ?_
  intro F σ H Q rl q
  refine ha F σ H _ rl fun v F1 H1 st1 r1 q1 => ?_
  obtain ⟨a, vs, rfl, h1, h2⟩ := q1
  obtain ⟨ks, rfl, e2, h3⟩ := ints_keys h2
  subst e2
  rw [← hK]
  refine ⟨a, ks, rfl, SqL.of (r1.sub _ _ h1), fun p hp => same_t r1.sub (h3 p hp), by rw [List.length_map] at hz; exact hz, fun b L hb hL1 hL2 => ?_⟩
  have g0 := grow_new (o := SetTO X.prog X.w b L) r1.sub hb
  have r2 := r1.grow g0
  refine ⟨b, L, rfl, upd_same, fun p hp => same_t r2.sub (h3 p (hL1 p hp)), fun p hp => hne _ (List.mem_map.mpr ⟨p, hL1 p hp, rfl⟩), fun qs p pm asc nd hp => ?_⟩
  have hqs : ∃ ns : List (List Int), qs.map (·.2) = ns.map kyI ∧ ns.Perm (L.map (·.2)) := by
    have p1 : (qs.map (·.2)).Perm ((L.map (·.2)).map kyI) := by
      have := pm.map (·.2)
      rw [List.map_map] at this
      rw [List.map_map]
      exact this
    obtain ⟨ns, h5, h6⟩ := perm_lift p1 _ rfl
    exact ⟨ns, h6, h5⟩
  obtain ⟨ns, e3, pn⟩ := hqs
  have en : ns = ms := by
    refine SetOf.uniq (nss := ks.map (·.2)) ⟨by rw [← e3]; exact asc, pn.nodup_iff.mpr nd, fun x => ?_⟩ hset
    rw [pn.mem_iff]
    constructor
    · intro hx
      obtain ⟨z, hz, rfl⟩ := List.mem_map.mp hx
      exact List.mem_map.mpr ⟨z, hL1 z hz, rfl⟩
    · intro hx
      obtain ⟨z, hz, rfl⟩ := List.mem_map.mp hx
      exact hL2 z hz
  subst en
  refine evn_new (st1.trans g0.stp) rl r2 q p _ hp ?_
  have e4 : (ns.map fun ns => D.tup (ns.map .int)) = (qs.map (·.2)).map kyD := by
    rw [e3, List.map_map]
    refine List.map_congr_left fun x _ => ?_
    show D.tup (x.map .int) = D.tup ((kyI x).map atD)
    unfold kyI
    rw [List.map_map]
    rfl
  rw [e4]
  refine keys_isAll qs fun z hz => ?_
  have hz2 := pm.mem_iff.mp hz
  obtain ⟨y, hy, rfl⟩ := List.mem_map.mp hz2
  show SqT G.K F1 y.1 ((kyI y.2).map atV)
  rw [kyI_atV]
  exact h3 y (hL1 y hy)
end
end Fx

/-! append of one of several values; enumerate. -/
namespace Fx
open PySem L2
section
variable {X : Cx} {G : Gx} {e : Expr} {p pos : Pos} {cs cs1 : List Cell} {d : D} {xs : List D}
theorem sx_appendR {P : Post} {l : Addr} {ds : List D} {n : Str} {np ap spos : Pos} {R : D → List Cell → Prop} (i : Nat) (h : cs[i]? = some (.own l ds)) (he : EvR G (rdE X e) cs R) (hp : ∀ d c, R d c → ∃ es', c[i]? = some (.own l es') ∧ es'.length < 10000000 ∧ P.nx (c.set i (.own l (es' ++ [d])))) (hN : X.N[i]? = some n) (hv : Vis X.env.scope n)
    (hpe : ∀ {to : TE} {t : TA}, PE X (.Name n np) to → PA X [e] t → PE X (.Call (.Attribute (.Name n np) "append" ap) [e] [] pos) (tBM X.K "list" rAppend to t)) (hd : (n == ("__debug__" : Str)) = false := by decide) (hcd : (n == ("__classdict__" : Str)) = false := by decide)
    (hs : starEach [e] X.env = (false, eval e X.env) :: starEach [] X.env := by rfl) (hsw : swapsWith (.Call (.Attribute (.Name n np) "append" ap) [e] [] pos) none spos.line X.env = pure false := by rfl) :
    Sx G (rdS X (.Expr (.Call (.Attribute (.Name n np) "append" ap) [e] [] pos) spos)) cs P :=
  sx_of (ps_expr (hpe (pe_var hN hv hd hcd) (pa_cons pe_rd pa_nil hs)) hsw) fun F σ H E rl k1 _ _ _ _ => by
    obtain ⟨vs, e1, _, _, _, ty⟩ := own_meth (X := X) (id := "") (rr := fun _ _ _ _ => True) rl h
    refine ⟨.ref l, e1, ty, he F σ H _ rl fun d c v F1 H1 hR st1 r1 q1 => ?_⟩
    obtain ⟨es', h1, hz, hp1⟩ := hp d c hR
    obtain ⟨vs1, e2, h2, h3, h4⟩ := r1.own h1
    refine ⟨l, vs1, v, rfl, rfl, h2, ?_, ?_⟩
    · rw [h4.length]
      exact Nat.lt_trans hz (by decide)
    · exact k1 _ σ F1 _ hp1 (st1.trans (Stp.write h1)) (r1.write h1 (h4.append (.one q1)))
/-- for a, b in enumerate(xs) -/
def enumD (xs : List D) : List D := (List.range xs.length).map fun (i : Nat) => .tup [.int (i : Int), xs.getD i .non]
theorem enumD_get {i : Nat} {d : D} (h : (enumD xs)[i]? = some d) : ∃ x, xs[i]? = some x ∧ d = .tup [.int (i : Int), x] := by
  unfold enumD at h
  rw [List.getElem?_map] at h
  by_cases hi : i < xs.length
  · rw [List.getElem?_range hi] at h
    refine ⟨xs[i], List.getElem?_eq_getElem hi, ?_⟩
    cases h
    show D.tup [D.int (i : Int), xs.getD i .non] = _
    rw [List.getD_eq_getElem?_getD, List.getElem?_eq_getElem hi]
    rfl
  · rw [List.getElem?_eq_none (by simpa using hi)] at h
    cases h
theorem ei_enum {tpos : Pos} {elts : List Expr} {kk : Nat} (h : EvV G (rdA X [e]) cs [.lst xs] cs1) (hg : Gl X "enumerate") (hm : X.mg "enumerate" = none) (hs : starEach [e] X.env = [(false, eval e X.env)] := by rfl) :
    EvI G (rdI X (.Tuple elts kk tpos) (.Call (.Name "enumerate" p) [e] [] pos)) cs (enumD xs) cs1 :=
  ei_of (pi_enum hg hm pa_rd hs) fun F σ H R rl q => h F σ H _ rl fun vs F1 H1 st1 r1 q1 => by
    obtain ⟨v1, r, rfl, ⟨a, us, rfl, h1, h2⟩, h5⟩ := q1
    cases h5
    refine ⟨a, us, rfl, SqL.of (r1.sub _ _ h1), q _ F1 H1 st1 r1 fun F2 H2 s1 s2 => ⟨fun i d hd => ?_, ?_⟩⟩
    · have ha := SqL.of (K := X.K) (s2 _ _ (s1 _ _ h1))
      obtain ⟨x, ex, rfl⟩ := enumD_get hd
      obtain ⟨vx, e1, i1⟩ := h2.get ex
      refine ⟨⟨us, vx, ha, e1⟩, ?_⟩
      rintro z H3 ⟨T, x', rfl, hT, rfl, q1⟩
      have z1 := q1 _ ha
      rw [e1] at z1; cases z1
      have g := grow_know (o := .tup [.int (i : Int), vx]) s2 hT
      exact ⟨_, g, T, _, rfl, SqT.of upd_same, _, [vx], rfl, rfl, vx, [], rfl, Is.mono (s1.trans g.fsub) _ i1, rfl⟩
    · refine ⟨us, SqL.of (s2 _ _ (s1 _ _ h1)), ?_⟩
      rw [h2.length]
      unfold enumD
      rw [List.length_map, List.length_range]
      exact Nat.le_refl _
end
end Fx

/-! arguments and tests told by a property. -/
namespace Fx
open PySem L2
def EvVR (G : Gx) (ta : TA) (cs : List Cell) (R : List D → List Cell → Prop) : Prop := ∀ (F : Hp) (σ : L2.St) (H : Hp) (Q : List V → Hp → Prop), Rel G F σ H cs →
  (∀ ds cs' vs F' H', R ds cs' → Stp F H (Owns cs) F' H' (Owns cs') → Rel G F' σ H' cs' → IsAll G F' ds vs → Q vs H') → ta σ H Q
def EvTR (G : Gx) (tt : TT) (cs : List Cell) (R : Bool → List Cell → Prop) : Prop := ∀ (F : Hp) (σ : L2.St) (H : Hp) (Q : Bool → Hp → Prop), Rel G F σ H cs →
  (∀ k cs' F' H', R k cs' → Stp F H (Owns cs) F' H' (Owns cs') → Rel G F' σ H' cs' → Q k H') → tt σ H Q
section
variable {X : Cx} {G : Gx} {e c : Expr} {es : List Expr} {np pos : Pos} {n : Str} {cs cs1 : List Cell} {d x : D} {ds : List D} {j k : Nat} {P : Post}
theorem evvr_of {t : TA} (h : PA X es t) {R : List D → List Cell → Prop} (q : EvVR G t cs R) : EvVR G (rdA X es) cs R := fun F σ H Q r kk pos pins s I => h.run pos pins s σ H Q I (q F σ H Q r kk)
theorem evvr_v (h : EvV G (rdA X es) cs ds cs1) : EvVR G (rdA X es) cs fun z c => z = ds ∧ c = cs1 := fun F σ H Q rl q => h F σ H Q rl fun vs F1 H1 st r i => q ds cs1 vs F1 H1 ⟨rfl, rfl⟩ st r i
theorem EvVR.mono {ta : TA} {R R' : List D → List Cell → Prop} (h : EvVR G ta cs R) (hR : ∀ ds c, R ds c → R' ds c) : EvVR G ta cs R' := fun F σ H Q rl q => h F σ H Q rl fun ds c vs F1 H1 r => q ds c vs F1 H1 (hR ds c r)
theorem evvr_cons {R : List D → List Cell → Prop} (h : Ev G (rdE X e) cs x cs1) (h2 : EvVR G (rdA X es) cs1 R) (hs : starEach (e :: es) X.env = (false, eval e X.env) :: starEach es X.env := by rfl) : EvVR G (rdA X (e :: es)) cs fun z c => ∃ r, z = x :: r ∧ R r c :=
  evvr_of (pa_cons pe_rd pa_rd hs) fun F σ H Q rl q => h F σ H _ rl fun v F1 H1 st1 r1 q1 => h2 F1 σ H1 _ r1 fun ds c vs F2 H2 hR st2 r2 q2 => q _ c _ F2 H2 ⟨ds, rfl, hR⟩ (st1.trans st2) r2 ⟨v, vs, rfl, Is.mono st2.fsub x q1, q2⟩
theorem evvr_consR {R1 : D → List Cell → Prop} {R2 : D → List D → List Cell → Prop} (h : EvR G (rdE X e) cs R1) (h2 : ∀ d c, R1 d c → EvVR G (rdA X es) c (R2 d)) (hs : starEach (e :: es) X.env = (false, eval e X.env) :: starEach es X.env := by rfl) : EvVR G (rdA X (e :: es)) cs fun z c => ∃ d r, z = d :: r ∧ R2 d r c :=
  evvr_of (pa_cons pe_rd pa_rd hs) fun F σ H Q rl q => h F σ H _ rl fun d c1 v F1 H1 h1 st1 r1 q1 => h2 d c1 h1 F1 σ H1 _ r1 fun ds c vs F2 H2 hR st2 r2 q2 => q _ c _ F2 H2 ⟨d, ds, rfl, hR⟩ (st1.trans st2) r2 ⟨v, vs, rfl, Is.mono st2.fsub d q1, q2⟩
/-- one argument more, told by a property, nothing behind it -/
theorem evvr_lastR {R1 : D → List Cell → Prop} (h : EvR G (rdE X e) cs R1) (hs : starEach [e] X.env = (false, eval e X.env) :: starEach [] X.env := by rfl) : EvVR G (rdA X [e]) cs fun z c => ∃ d, z = [d] ∧ R1 d c :=
  (evvr_consR (R2 := fun d r c => r = [] ∧ R1 d c) h (fun d c h1 => (evvr_v evv_nil).mono fun r c' hh => ⟨hh.1, by rw [hh.2]; exact h1⟩) hs).mono fun z c ⟨d, r, e1, e2, h3⟩ => ⟨d, by rw [e1, e2], h3⟩
/-! calls -/
theorem evr_fn0R {C : List D → Out → Prop} {R : List D → List Cell → Prop} {R' : D → List Cell → Prop} (Fn : Fn0 G X.prog X.w X.mg X.base k n C) (hr : Room j X.A) (hk : k ≤ j) (ha : EvVR G (rdA X (e :: es)) cs R) (hC : ∀ ds c, R ds c → ∃ d, C ds (.val d) ∧ R' d c) (hg : Gl X n) (hK : G.K = X.K := by rfl) (hd : (n == ("__debug__" : Str)) = false := by decide)
    (he : starEach (e :: es) X.env = (false, eval e X.env) :: starEach es X.env := by rfl) (hpl : (backTo pos (starEach es X.env)).any (·.1) = false := by rfl) : EvR G (rdE X (.Call (.Name n np) (e :: es) [] pos)) cs R' := by
  obtain ⟨f, hm, kp, F⟩ := Fn
  rw [hK] at kp F
  refine evr_of (pe_callR F (hr.mono hk) kp hg hm pass0 pa_rd hd he hpl) fun F σ H Q rl q => ha F σ H _ rl fun ds c vs F1 H1 hR st1 r1 q1 => ?_
  obtain ⟨d, h1, h2⟩ := hC ds c hR
  exact ⟨F1, ds, .val d, r1.sub, q1, h1, fun v F2 H2 g q2 => q d c v F2 H2 h2 (st1.trans g.stp) (r1.grow g) q2⟩
theorem pe_fn0G {C : List D → Out → Prop} {f : Addr} (hm : X.mg n = some (.ref f)) (kp : PySem.W.keepIn X.K (.ref f) = true) (F : FnG X.prog X.w X.K X.mg X.base k f (sp0 G C)) (gd : X.A.guards = some []) (hr : Room k X.A) (hg : Gl X n) (hd : (n == ("__debug__" : Str)) = false := by decide)
    (he : starEach (e :: es) X.env = (false, eval e X.env) :: starEach es X.env := by rfl) (hpl : (backTo pos (starEach es X.env)).any (·.1) = false := by rfl) : PE X (.Call (.Name n np) (e :: es) [] pos) (fun σ H Q => rdA X (e :: es) σ H fun vs H1 => sp0 G C vs H1 Q E0) := by
  refine ⟨fun pins s σ H Q I h => ?_⟩
  refine wpAny_Call_Name_kw (ld_glob I hg hm ?_ hd)
  refine PySem.W.callWith_K (h₀ := X.base) I.ok.mod.kin kp (thn (pa_rd.run pos pins s σ H _ I h) fun us s1 ⟨vs, H1, I1, r, q⟩ => ⟨I1.kIn, ?_⟩) he hpl
  refine wpAny_call (codeAny_mono (F X.A X.stack s1 H1 us vs Q E0 gd hr I1.env0 r q) fun r s2 z => ?_)
  cases r with
  | error _ => exact z.elim
  | ok fl =>
    cases fl with
    | ret u => exact I1.after z
    | next => exact z.elim
    | brk => exact z.elim
    | cont => exact z.elim
theorem evr_fn0GR {C : List D → Out → Prop} {R : List D → List Cell → Prop} {R' : D → List Cell → Prop} (Fn : Fn0G G X.prog X.w X.mg X.base k n C) (gd : X.A.guards = some []) (hr : Room j X.A) (hk : k ≤ j) (ha : EvVR G (rdA X (e :: es)) cs R) (hC : ∀ ds c, R ds c → ∃ d, C ds (.val d) ∧ R' d c) (hg : Gl X n) (hK : G.K = X.K := by rfl) (hd : (n == ("__debug__" : Str)) = false := by decide)
    (he : starEach (e :: es) X.env = (false, eval e X.env) :: starEach es X.env := by rfl) (hpl : (backTo pos (starEach es X.env)).any (·.1) = false := by rfl) : EvR G (rdE X (.Call (.Name n np) (e :: es) [] pos)) cs R' := by
  obtain ⟨f, hm, kp, F⟩ := Fn
  rw [hK] at kp F
  refine evr_of (pe_fn0G hm kp F gd (hr.mono hk) hg hd he hpl) fun F σ H Q rl q => ha F σ H _ rl fun ds c vs F1 H1 hR st1 r1 q1 => ?_
  obtain ⟨d, h1, h2⟩ := hC ds c hR
  exact ⟨F1, ds, .val d, r1.sub, q1, h1, fun v F2 H2 g q2 => q d c v F2 H2 h2 (st1.trans g.stp) (r1.grow g) q2⟩
/-! tests -/
theorem etr_of {tt : TT} {R : Bool → List Cell → Prop} (h : PT X e tt) (q : EvTR G tt cs R) : EvTR G (rdT X e) cs R := fun F σ H Q r kk pins s I => h.run pins s σ H Q I (q F σ H Q r kk)
theorem etr_val {R : D → List Cell → Prop} (h : EvR G (rdE X e) cs R) (hb : ∀ d c, R d c → ∃ b, d = .bl b) (he : ∀ whole, isTrue e X.env whole = (do let v ← whole; standAt e.pos; holding [v] (truthy v)) := by intro _; rfl) : EvTR G (rdT X e) cs fun b c => R (.bl b) c :=
  etr_of (pt_val pe_rd he) fun F σ H Q rl q => h F σ H _ rl fun d c v F1 H1 hR st r i => by
    obtain ⟨b, rfl⟩ := hb d c hR
    exact ⟨b, i, q b c F1 H1 hR st r⟩
theorem etr_not {R : Bool → List Cell → Prop} (h : EvTR G (rdT X e) cs R) : EvTR G (rdT X (.UnaryOp .Not e pos)) cs fun b c => R (!b) c :=
  etr_of (pt_not pt_rd) fun F σ H Q rl q => h F σ H _ rl fun k c F1 H1 hR st r => q (!k) c F1 H1 (by rw [Bool.not_not]; exact hR) st r
theorem EvTR.mono {tt : TT} {R R' : Bool → List Cell → Prop} (h : EvTR G tt cs R) (hR : ∀ b c, R b c → R' b c) : EvTR G tt cs R' := fun F σ H Q rl q => h F σ H Q rl fun k c F1 H1 r => q k c F1 H1 (hR k c r)
theorem etr_t {tt : TT} {b : Bool} (h : EvT G tt cs b cs1) : EvTR G tt cs fun k c => k = b ∧ c = cs1 := fun F σ H Q rl q => h F σ H Q rl fun F1 H1 st r => q b cs1 F1 H1 ⟨rfl, rfl⟩ st r
theorem sx_ifR {s1 s2 : List Stmt} {R : Bool → List Cell → Prop} (h : EvTR G (rdT X c) cs R) (h1 : ∀ c1, R true c1 → Sx G (rdSs X s1) c1 P) (h2 : ∀ c1, R false c1 → Sx G (rdSs X s2) c1 P) : Sx G (rdS X (.If c s1 s2 pos)) cs P :=
  sx_of (ps_if pt_rd pss_rd pss_rd) fun F σ H E rl k1 k2 k3 k4 k5 => h F σ H _ rl fun k c1 F1 H1 hR st r => by
    cases k with
    | true => exact iteT (h1 c1 hR F1 σ H1 E r (k1.after st) (k2.after st) (k3.after st) (k4.after st) (k5.after st))
    | false => exact iteF (h2 c1 hR F1 σ H1 E r (k1.after st) (k2.after st) (k3.after st) (k4.after st) (k5.after st))
end
end Fx

/-! x + y by the class's own method, both instances of it. -/
namespace Fx
open PySem L2 PyProof.Rows PySem.Calls
section
variable {prog : Program} {w : World} {A : Around} {E : Value → Shared → Prop} {s : Shared} {K : PySem.W.Frag} {x y C f : Addr} {ox oy : Obj} {od oe : Option Obj}
theorem bin_same {op : Operator} {Q : Value → Shared → Prop} (X : K.In s.heap) (I : PySem.W.InstAt s.heap x ox C od) (I2 : PySem.W.InstAt s.heap y oy C oe) (hc : PySem.W.selfFirst K C = true) (hs : PySem.W.findIn K (.ref C) (PySem.dunder op.info.2) = some (some (.ref f))) (hf : PySem.W.isFn K (.ref f) = true)
    (h : wpAny (model prog w) A (call (.ref f) [.ref x, .ref y]) (PySem.W.CmpBack Q) E s) : wpAny (model prog w) A (binaryOp op (.ref x) (.ref y)) Q E s := by
  obtain ⟨cd, rest, hcd, hm⟩ := PySem.W.ksp_first hc
  rcases hi : op.info with ⟨sym, nm'⟩
  rw [hi] at hs
  dsimp only at hs
  have one := PySem.W.ksp_try X I hs hf h
  obtain ⟨hh, g, d, tt, os⟩ := s
  have L1 : PySem.W.Looks (model prog w) hh (typeOf (.ref x)) (.ref C) := I.type
  have L2 : PySem.W.Looks (model prog w) hh (typeOf (.ref y)) (.ref C) := I2.type
  have L3 : PySem.W.Looks (model prog w) hh (fillsNumberSlot (.ref C) nm') true := PySem.W.fills_K X hcd hm hs
  have he : (Value.ref C == Value.ref C) = true := beq_self_eq_true _
  simp only [binaryOp, hi]
  refine wpAny_holding (wpAny_bind (by
    unfold binaryOp1
    refine wpAny_bind (L1.at (wpAny_bind (L2.at (wpAny_bind (L3.at ?_)))))
    simp only [he, if_true]
    ksp_lk
    refine wpAny_mono one (fun r s' hr' => ?_) fun _ _ e => e
    obtain ⟨v, rfl, hq⟩ := hr'
    ksp_lk
    exact hq))
end
/-- what a class must have that its instances may be combined -/
structure BinO (K : PySem.W.Frag) (C g : Addr) (m : Str) : Prop where
  sf : PySem.W.selfFirst K C = true
  at_ : PySem.W.findIn K (.ref C) m = some (some (.ref g))
  fn : PySem.W.isFn K (.ref g) = true
theorem back_of {X : Cx} {pins : List (Addr × Obj)} {σ : L2.St} {Q : VK} {v : Value} {s : Shared} (h : EP X pins σ Q v s) : PySem.W.CmpBack (EP X pins σ Q) v s := by
  obtain ⟨y, H, I, r, q⟩ := h
  cases v with
  | notImplemented =>
    cases y <;> first | (obtain ⟨t, r⟩ := r; cases r) | cases r
  | _ => exact ⟨y, H, I, r, q⟩
section
variable (G : Gx) (P : Program) (w : World) (mg : Str → Option Value) (base : Heap) (c k : Nat)
def PkBin (m : Str) (C : List D → Out → Prop) : Prop := ∃ g, BinO G.K (G.cls c) g m ∧ FnR P w G.K mg base CX0 k g (sp0 G C)
end
section
variable {X : Cx} {G : Gx} {ds es : List D} {z : D} {c j k : Nat}
theorem b_obj {op : Operator} {C : List D → Out → Prop} (Pk : PkBin G X.prog X.w X.mg X.base c k (PySem.dunder op.info.2) C) (hr : Room j X.A) (hk : k ≤ j) (hC : C [.obj c ds, .obj c es] (.val z)) (hK : G.K = X.K := by rfl) : BinJ G X op (.obj c ds) (.obj c es) z := by
  obtain ⟨g, b, F⟩ := Pk
  rw [hK] at b F
  refine ⟨fun x y H Q => ∃ a a', x = V.ref a ∧ y = V.ref a' ∧ StX.InsC X H a (G.cls c) ∧ StX.InsC X H a' (G.cls c) ∧ sp0 G C [V.ref a, V.ref a'] H Q E0, ?_, ?_⟩
  · intro pins s σ H x y v u Q I rx ry h
    obtain ⟨a, a', rfl, rfl, i1, i2, sp⟩ := h
    obtain rfl : v = Value.ref a := rx
    obtain rfl : u = Value.ref a' := ry
    obtain ⟨ox, od, J, _⟩ := StX.insC_at I i1
    obtain ⟨oy, oe, J2, _⟩ := StX.insC_at I i2
    refine bin_same I.kIn J J2 b.sf b.at_ b.fn (wpAny_mono (wpAny_call (run_fnR (us := [.ref a, .ref a']) (vs := [.ref a, .ref a']) F (hr.mono hk) pass0 I (.cons rfl (.cons rfl .nil)) sp)) (fun v s' h => back_of h) fun _ _ e => e)
  · intro F1 H v u Q sm h1 h2 q
    obtain ⟨a, dx, fs, rfl, a1, a2, a3⟩ := h1
    obtain ⟨a', dx', fs', rfl, b1, b2, b3⟩ := h2
    exact ⟨a, a', rfl, rfl, .inr ⟨dx, fs, sm _ _ a1⟩, .inr ⟨dx', fs', sm _ _ b1⟩, F1, [.obj c ds, .obj c es], .val z, sm, ⟨_, _, rfl, ⟨a, dx, fs, rfl, a1, a2, a3⟩, _, _, rfl, ⟨a', dx', fs', rfl, b1, b2, b3⟩, rfl⟩, hC, fun v F2 H2 g q2 => q v F2 H2 g q2⟩
end
end Fx

/-! for over one of several lists; defs that change a list, called where nothing is shown. -/
namespace Fx
open PySem L2
def EvIR (G : Gx) (wi : TI) (cs : List Cell) (R : List D → List Cell → Prop) : Prop := ∀ (F : Hp) (σ : L2.St) (H : Hp) (Rr : It → Hp → Prop), Rel G F σ H cs →
  (∀ its J cs' F' H', R its cs' → Stp F H (Owns cs) F' H' (Owns cs') → Rel G F' σ H' cs' → ItD G J F' its → Rr J H') → wi σ H Rr
section
variable {X : Cx} {G : Gx} {e tg iter : Expr} {es body : List Stmt} {pos : Pos} {cs cs1 : List Cell} {P : Post}
theorem eir_list {R : List D → List Cell → Prop} (h : EvR G (rdE X iter) cs fun d c => ∃ its, d = .lst its ∧ R its c) : EvIR G (rdI X tg iter) cs R := fun F σ H Rr rl q pins s I =>
  (pi_list (tg := tg) pe_rd).run pins s σ H Rr I (h F σ H _ rl fun d c v F1 H1 hR st1 r1 q1 => by
    obtain ⟨its, rfl, hR⟩ := hR
    obtain ⟨a, vs, rfl, h1, h2⟩ := q1
    exact ⟨a, rfl, ⟨vs, SqL.of (r1.sub _ _ h1)⟩, q its _ c F1 H1 hR st1 r1 (itd_list h1 h2)⟩)
theorem sx_forR {R : List D → List Cell → Prop} (hi : EvIR G (rdI X tg iter) cs R) (I : List D → Nat → List Cell → Prop) (h0 : ∀ its c, R its c → I its 0 c)
    (hs : ∀ its (i : Nat) d cs2, its[i]? = some d → I its i cs2 → ∃ cs3 tl, EvG G (rdG X tg) tl d cs2 cs3 ∧ Sx G (rdSs X body) cs3 { nx := I its (i + 1), ct := I its (i + 1), bk := P.nx, rt := P.rt, rn := P.rn }) (hd : ∀ its cs2, I its its.length cs2 → P.nx cs2)
    (hc : X.calm = true) (hp : PassesOwn (model X.prog X.w) X.A X.env X.xe := by exact PassesOwn.never) (hf : ∀ x, foldedSetIterable iter X.env x = pure x := by intro _; rfl) : Sx G (rdS X (.For tg iter body [] pos)) cs P :=
  sx_of (ps_for hp hc pi_rd pg_rd pss_rd hf) fun F σ H E rl k1 k2 k3 k4 k5 => hi F σ H _ rl fun its J cs1 F1 H1 hR st1 r1 it => by
    refine ⟨fun i m σ2 H2 => m = its.length - i ∧ i ≤ its.length ∧ ∃ cs2 F2, I its i cs2 ∧ Rel G F2 σ2 H2 cs2 ∧ Stp F1 H1 (Owns cs1) F2 H2 (Owns cs2), ⟨its.length, by simp, Nat.zero_le _, cs1, F1, h0 its cs1 hR, r1, .refl⟩, ?_⟩
    rintro i m σ2 H2 ⟨rfl, hi2, cs2, F2, i2, r2, st2⟩
    obtain ⟨hgo, hstop⟩ := it F2 H2 st2.fsub r2.sub
    by_cases hlt : i < its.length
    · obtain ⟨go, yl⟩ := hgo i its[i] (List.getElem?_eq_getElem hlt)
      refine .inr ⟨go, fun σ' H' => ∃ cs4 F4, I its (i + 1) cs4 ∧ Rel G F4 σ' H' cs4 ∧ Stp F1 H1 (Owns cs1) F4 H' (Owns cs4), fun σ' H' q => ⟨its.length - (i + 1), by omega, rfl, hlt, q⟩, fun x H3 y => ?_⟩
      obtain ⟨F3, g, q3⟩ := yl x H3 y
      obtain ⟨cs3, tl, hg, hb⟩ := hs its i its[i] cs2 (List.getElem?_eq_getElem hlt) i2
      refine hg F3 σ2 H3 x _ (r2.grow g) q3 fun σ3 st3 r3 _ => ?_
      have sa := (st2.trans g.stp).trans st3
      have sb := st1.trans sa
      exact hb F3 σ3 H3 _ r3 (fun cs4 σ4 F4 H4 i4 s4 r4 => ⟨cs4, F4, i4, r4, sa.trans s4⟩) (k2.after sb) (k3.after sb) (k1.after sb) (fun cs4 σ4 F4 H4 i4 s4 r4 => ⟨cs4, F4, i4, r4, sa.trans s4⟩)
    · have e : i = its.length := by omega
      subst e
      exact .inl ⟨hstop, k1 cs2 σ2 F2 H2 (hd its cs2 i2) (st1.trans st2) r2⟩
/-- e[lo:hi], e one of several lists -/
theorem evnr_slice {lo hi : Option Expr} {p2 : Pos} {tl th : TO} {ol oh : Option Int} {RA : List D → List Cell → Prop} (hl : PO X lo tl) (hh : PO X hi th) (h : EvR G (rdE X e) cs fun d c => ∃ xs, d = .lst xs ∧ RA xs c) (h1 : ∀ c, EvS G tl c ol c) (h2 : ∀ c, EvS G th c oh c) :
    EvNR G (rdE X (.Subscript e (.Slice lo hi none p2) pos)) cs fun ds c => ∃ xs, ds = (xs.drop (HT.sIx xs.length 0 ol)).take (HT.sIx xs.length xs.length oh - HT.sIx xs.length 0 ol) ∧ RA xs c :=
  evnr_of (pe_slice sl_list pe_rd hl hh) fun F σ H Q rl q => h F σ H _ rl fun d c v F1 H1 hR st1 r1 q1 => h1 c F1 σ H1 _ r1 fun F2 H2 st2 r2 => h2 c F2 σ H2 _ r2 fun F3 H3 st3 r3 => by
    obtain ⟨xs, rfl, hR⟩ := hR
    obtain ⟨a, vs, rfl, h5, h6⟩ := q1
    have e1 := st3.fsub _ _ (st2.fsub _ _ h5)
    have i3 := IsAll.mono (st2.fsub.trans st3.fsub) xs h6
    refine ⟨a, vs, rfl, SqL.of (r3.sub _ _ e1), fun p hp => ?_⟩
    refine evn_new ((st1.trans st2).trans st3) rl r3 (fun p vs F' H' st r a0 a1 a2 a3 a4 => q _ c p vs F' H' ⟨xs, rfl, hR⟩ st r a0 a1 a2 a3 a4) p _ hp ?_
    unfold cutV
    rw [i3.length]
    exact (i3.drop _).take _
end
/-! ### is, is not of bools -/
section
variable {X : Cx} {G : Gx}
theorem c_notB {a b : Bool} : CmpJ G X .IsNot (.bl a) (.bl b) (!decide (a = b)) := ⟨_, op_notBl, fun F H v w Q sm h1 h2 q => by
  cases h1
  cases h2
  exact ⟨a, b, rfl, rfl, q _ F H (.refl sm) rfl⟩⟩
end
/-! ### defs that change a list, called where nothing is shown -/
def Fn1RG (G : Gx) (P : Program) (w : World) (mg : Str → Option Value) (base : Heap) (k : Nat) (n : Str) (C : List D → List D → Prop) (R : List D → List D → D → List D → Prop) : Prop := ∃ f, mg n = some (.ref f) ∧ PySem.W.keepIn G.K (.ref f) = true ∧ FnG P w G.K mg base k f (sp1R G C R)
section
variable {P : Program} {w : World} {G : Gx} {mg : Str → Option Value} {base : Heap} {x qual : Str} {st : Stmt} {f : Addr} {fd : FuncData} {N ps : List Str} {k : Nat}
theorem fn1RG {C : List D → List D → Prop} {R : List D → List D → D → List D → Prop} (F : L2.Fun G.K x qual st f fd) (S : FnScope N ps (defScope st)) (hb : Binds G.K fd ps []) (hl : ∀ qs ds, C qs ds → ds.length + 1 = ps.length) (hN : ps.length ≤ N.length)
    (body : ∀ cdv A outer s H E, Room k (cx0 P w G.K mg base N qual st f cdv A outer s H E).A → (cx0 P w G.K mg base N qual st f cdv A outer s H E).A.guards = some [] → ∀ l qs ds, C qs ds → Sx G (rdSs (cx0 P w G.K mg base N qual st f cdv A outer s H E) (defBody st)) (.own l qs :: (vals ds ++ nos (N.length - ps.length))) { nx := fun _ => False, rt := fun d cs => ∃ qs', R qs ds d qs' ∧ cs[0]? = some (.own l qs') }) :
    FnG P w G.K mg base (k + 1) f (sp1R G C R) := by
  refine fnG_of F S hb (fun vs H Q E ⟨F, l, pv, us, qs, ds, _, e, _, _, _, h, c, _⟩ => by rw [e, List.length_cons, h.length]; exact hl _ _ c) fun cdv A outer s H vs Q E hr gd hsp => ?_
  obtain ⟨F0, l, pv, us, qs, ds, sm, rfl, h1, h2, hp, h, c, ret⟩ := hsp
  have hdl := hl qs ds c
  have rl := rel_start1 (N := N) sm h1 h2 hp h (by omega)
  rw [hdl] at rl
  have ne : H l ≠ none := by rw [h1]; intro z; cases z
  refine body cdv A outer s H E hr gd l qs ds c F0 _ H _ rl (fun cs' σ' F' H' hp => hp.elim) ?_ (fun _ _ _ _ _ _ _ hp => hp.elim) (fun _ _ _ _ hp => hp.elim) (fun _ _ _ _ hp => hp.elim)
  intro d cs' σ' F' H' v hp st r q
  obtain ⟨qs', hR, e2⟩ := hp
  obtain ⟨pv', _, a1, a2, a3⟩ := r.own e2
  exact ret d qs' hR v F' H' pv' (stp_pen st ne) r.sub a1 a2 a3 q
end
/-- arguments, the first a list of ours, the rest told by a property -/
def EvPR (G : Gx) (ta : TA) (cs : List Cell) (l : Addr) (R : List D → List Cell → Prop) : Prop := ∀ (F : Hp) (σ : L2.St) (H : Hp) (Q : List V → Hp → Prop), Rel G F σ H cs →
  (∀ ds cs' vs F' H', R ds cs' → Stp F H (Owns cs) F' H' (Owns cs') → Rel G F' σ H' cs' → IsAll G F' ds vs → Q (.ref l :: vs) H') → ta σ H Q
section
variable {X : Cx} {G : Gx} {e : Expr} {es : List Expr} {np pos : Pos} {n m : Str} {cs cs1 : List Cell} {ds qs : List D} {l : Addr} {j k : Nat} {R : List D → List Cell → Prop}
theorem evpr_cons {i : Nat} (h : cs[i]? = some (.own l ds)) (hN : X.N[i]? = some n) (hv : Vis X.env.scope n) (h2 : EvVR G (rdA X es) cs R) (hd : (n == ("__debug__" : Str)) = false := by decide) (hcd : (n == ("__classdict__" : Str)) = false := by decide)
    (hs : starEach (.Name n np :: es) X.env = (false, eval (.Name n np) X.env) :: starEach es X.env := by rfl) : EvPR G (rdA X (.Name n np :: es)) cs l R := fun F σ H Q rl q pos pins s I =>
  (pa_cons (pe_var hN hv hd hcd) pa_rd hs).run pos pins s σ H Q I (by
    obtain ⟨vs, e1, _⟩ := rl.own h
    exact ⟨.ref l, e1, h2 F σ H _ rl fun ds c vs F2 H2 hR st2 r2 q2 => q ds c vs F2 H2 hR st2 r2 q2⟩)
theorem evr_fn1GR {C : List D → List D → Prop} {R1 : List D → List D → D → List D → Prop} (i : Nat) (Fn : Fn1RG G X.prog X.w X.mg X.base k n C R1) (gd : X.A.guards = some []) (hr : Room j X.A) (hk : k ≤ j) (ha : EvPR G (rdA X (e :: es)) cs l R) (hC : ∀ ds c, R ds c → ∃ qs, c[i]? = some (.own l qs) ∧ C qs ds) (hg : Gl X n) (hK : G.K = X.K := by rfl) (hd : (n == ("__debug__" : Str)) = false := by decide)
    (he : starEach (e :: es) X.env = (false, eval e X.env) :: starEach es X.env := by rfl) (hpl : (backTo pos (starEach es X.env)).any (·.1) = false := by rfl) : EvR G (rdE X (.Call (.Name n np) (e :: es) [] pos)) cs fun d c => ∃ ds qs qs' c1, R ds c1 ∧ c1[i]? = some (.own l qs) ∧ R1 qs ds d qs' ∧ c = c1.set i (.own l qs') := by
  obtain ⟨f, hm, kp, F⟩ := Fn
  rw [hK] at kp F
  have pe : PE X (.Call (.Name n np) (e :: es) [] pos) (fun σ H Q => rdA X (e :: es) σ H fun vs H1 => sp1R G C R1 vs H1 Q E0) := by
    refine ⟨fun pins s σ H Q I h => ?_⟩
    refine wpAny_Call_Name_kw (ld_glob I hg hm ?_ hd)
    refine PySem.W.callWith_K (h₀ := X.base) I.ok.mod.kin kp (thn (pa_rd.run pos pins s σ H _ I h) fun us s1 ⟨vs, H1, I1, r, q⟩ => ⟨I1.kIn, ?_⟩) he hpl
    refine wpAny_call (codeAny_mono (F X.A X.stack s1 H1 us vs Q E0 gd (hr.mono hk) I1.env0 r q) fun r s2 z => ?_)
    cases r with
    | error _ => exact z.elim
    | ok fl =>
      cases fl with
      | ret u => exact I1.after z
      | next => exact z.elim
      | brk => exact z.elim
      | cont => exact z.elim
  refine evr_of pe fun F σ H Q rl q => ha F σ H _ rl fun ds c vs F1 H1 hR st1 r1 q1 => ?_
  obtain ⟨qs, hi, hc⟩ := hC ds c hR
  obtain ⟨pv, _, a1, a2, a3⟩ := r1.own hi
  refine ⟨F1, l, pv, vs, qs, ds, r1.sub, rfl, a1, a2, a3, q1, hc, fun d qs' hR1 v F2 H2 pv' st2 s2 h1 h2 h3 h4 => ?_⟩
  obtain ⟨r2, s3⟩ := pen_back r1 hi st2 s2 h1 h2 h3
  exact q d _ v F2 H2 ⟨ds, qs, qs', c, hR, hi, hR1, rfl⟩ (st1.trans s3) r2 h4
end
end Fx

/-! x in a tuple, x not in a tuple, by data. -/
namespace Fx
open PySem L2
section
variable {X : Cx} {G : Gx} {x : D} {ds : List D}
def rInT (K : PySem.W.Frag) (b : Bool) : R2 := fun x y H Q => ∃ d ds, Dp K H x d ∧ Dp K H y (.tuple ds) ∧ SeqAt.shaped d = true ∧ SeqAt.shaped (.tuple ds) = true ∧ Q (.bl (b ^^ ds.any fun z => PyData.eqv z d)) H
theorem op_inT (hu : X.A.units + 65 < cLine) : OpR X (compareOp .In) (rInT X.K false) := by
  intro pins s σ H x y v u Q I rx ry h
  obtain ⟨d, ds, hd, he, sd, se, q⟩ := h
  obtain ⟨as, r1⟩ := Dp.reads I d x v hd rx
  obtain ⟨bs, r2⟩ := Dp.reads I (.tuple ds) y u he ry
  rw [Bool.false_xor] at q
  exact SeqAt.in_tuple_reads r2 r1 (SeqAt.canLay_of_shaped se) (SeqAt.canLay_of_shaped sd) (PyProof.Rows.room_in_shaped sd hu) ⟨.bl _, H, I, rfl, q⟩
theorem op_niT (hu : X.A.units + 65 < cLine) : OpR X (compareOp .NotIn) (rInT X.K true) := by
  intro pins s σ H x y v u Q I rx ry h
  obtain ⟨d, ds, hd, he, sd, se, q⟩ := h
  obtain ⟨as, r1⟩ := Dp.reads I d x v hd rx
  obtain ⟨bs, r2⟩ := Dp.reads I (.tuple ds) y u he ry
  rw [Bool.true_xor] at q
  exact SeqAt.notIn_tuple_reads r2 r1 (SeqAt.canLay_of_shaped se) (SeqAt.canLay_of_shaped sd) (PyProof.Rows.room_in_shaped sd hu) ⟨.bl _, H, I, rfl, q⟩
theorem c_inT (hu : X.A.units + 65 < cLine) (hx : fine x) (hy : fine (.tup ds)) (hK : G.K = X.K := by rfl) : CmpJ G X .In x (.tup ds) (ds.any fun z => eqD z x) := ⟨_, op_inT hu, fun F H v w Q sm h1 h2 q => by
  have d1 := dp_of sm x v h1 hx.1
  have d2 := dp_of sm _ w h2 hy.1
  rw [hK] at d1 d2
  refine ⟨_, toPys ds, d1, d2, hx.shaped, hy.shaped, ?_⟩
  rw [toPys_any, Bool.false_xor]
  exact q _ F H (.refl sm) rfl⟩
theorem c_niT (hu : X.A.units + 65 < cLine) (hx : fine x) (hy : fine (.tup ds)) (hK : G.K = X.K := by rfl) : CmpJ G X .NotIn x (.tup ds) (!ds.any fun z => eqD z x) := ⟨_, op_niT hu, fun F H v w Q sm h1 h2 q => by
  have d1 := dp_of sm x v h1 hx.1
  have d2 := dp_of sm _ w h2 hy.1
  rw [hK] at d1 d2
  refine ⟨_, toPys ds, d1, d2, hx.shaped, hy.shaped, ?_⟩
  rw [toPys_any, Bool.true_xor]
  exact q _ F H (.refl sm) rfl⟩
end
end Fx

/-! sorted(xs) of ints. -/
namespace Fx
open PySem L2
section
variable {X : Cx} {G : Gx} {e : Expr} {pos p1 : Pos} {cs cs1 : List Cell}
theorem int_isAll {F : Hp} : ∀ ns : List Int, IsAll G F (ns.map .int) (ns.map V.int)
  | [] => rfl
  | n :: ns => ⟨_, _, rfl, rfl, int_isAll ns⟩
theorem asc_int {l m : List Int} (p : l.Perm m) (h1 : l.Pairwise (· ≤ ·)) (h2 : m.Pairwise (· ≤ ·)) : l = m := by
  induction l generalizing m with
  | nil => exact List.Perm.nil_eq p
  | cons x l ih =>
    cases m with
    | nil => exact absurd p.symm (by intro q; cases List.Perm.nil_eq q)
    | cons y m =>
      have e : x = y := by
        have a1 := (List.pairwise_cons.mp h1).1
        have a2 := (List.pairwise_cons.mp h2).1
        rcases List.mem_cons.mp (p.mem_iff.mp (List.mem_cons_self ..)) with z | z
        · exact z
        · rcases List.mem_cons.mp (p.mem_iff.mpr (List.mem_cons_self ..)) with u | u
          · exact u.symm
          · have := a1 y u
            have := a2 x z
            omega
      subst e
      rw [ih (List.Perm.cons_inv p) (List.pairwise_cons.mp h1).2 (List.pairwise_cons.mp h2).2]
theorem evn_sortedI {ns ms : List Int} (ha : Ev G (rdE X e) cs (.lst (ns.map .int)) cs1) (hp : ms.Perm ns) (hm : ms.Pairwise (· ≤ ·)) (g1 : Gl X "sorted") (m1 : X.mg "sorted" = none) (hs : starEach [e] X.env = (false, eval e X.env) :: starEach [] X.env := by rfl) (hpl : (backTo pos (starEach [] X.env)).any (·.1) = false := by rfl) :
    EvN G (rdE X (.Call (.Name "sorted" p1) [e] [] pos)) cs (ms.map .int) cs1 := by
  refine evn_of (pe_callB cr_sortedI g1 m1 (by decide +kernel) (pa_cons pe_rd pa_nil hs) (by decide) (by decide) hs hpl) ?_
  intro F σ H Q rl q
  refine ha F σ H _ rl fun v F1 H1 st1 r1 q1 => ?_
  obtain ⟨a, vs, rfl, h1, h2⟩ := q1
  have ev := ints_vals h2
  subst ev
  refine ⟨a, ns, rfl, SqL.of (r1.sub _ _ h1), fun ns' p pm asc hp' => ?_⟩
  have e1 : ns' = ms := asc_int (pm.trans hp.symm) asc hm
  subst e1
  exact evn_new st1 rl r1 q p _ hp' (int_isAll _)
end
end Fx

/-! for x in zip(tuple, tuple), the target one name. -/
namespace Fx
open PySem L2 RZ PySem.Spec PyProof.Rows
/-- a zip whose own tuple may be out -/
abbrev ZipB (h : Heap) (z TI TO : Addr) (f0 : Value) (f1 : Bool) : Prop :=
  h.get? z = some { cls := .type "zip", dict := none, data := .fields #[f0, .bool f1, .bool false, .ref TI, .ref TO], slots := #[] }
def Own0 (f0 : Value) : Prop := f0 = .none ∨ ∃ T : Addr, f0 = rawInt T
section
variable {prog : Program} {w : World} {A : Around} {E : Value → Shared → Prop} {s : Shared}
theorem alive_any {M : Model} {a : Addr} {Q : Option Obj → Shared → Prop} (h : Q (s.heap.get? a) s) : wpAny M A (loadIfAlive a) Q E s := fun Γ p _ => by
  first
  | exact h
  | (show Sem.wp M Γ (.loadIfAlive a .pure) _ _ p s; rw [Sem.wp_loadIfAlive]; exact h)
theorem owned_free {z TI TO : Addr} {f0 : Value} {f1 : Bool} {Q : Bool → Shared → Prop} (hf : Own0 f0) (hz : ZipB s.heap z TI TO f0 f1) (ht : Q true s)
    (hn : ∀ h' f1', ZipB h' z TI TO f0 f1' → Heap.SameBut z s.heap h' → Q false { s with heap := h' }) : wpAny (model prog w) A (Builtin.SmallTypes.ownedTupleIsFree (.ref z)) Q E s := by
  unfold Builtin.SmallTypes.ownedTupleIsFree
  rcases hf with rfl | ⟨T, rfl⟩
  · exact wpAny_bind (wpAny_field hz rfl (x := .none) rfl (wpAny_pure ht))
  · refine wpAny_bind (wpAny_field hz rfl (x := rawInt T) rfl ?_)
    show wpAny _ _ (loadIfAlive ((T : Int).toNat) >>= _) _ _ _
    rw [Int.toNat_natCast]
    refine wpAny_bind (alive_any ?_)
    cases hT : s.heap.get? T with
    | none =>
      simp only [Option.isNone_none, if_true]
      exact wpAny_pure ht
    | some oa =>
      simp only [Option.isNone_some, Bool.false_eq_true, if_false]
      refine wpAny_bind (wpAny_field hz rfl (x := .bool f1) rfl ?_)
      cases f1 with
      | true =>
        rw [if_neg (show ¬ ((Value.bool true != Value.bool true) = true) from Bool.false_ne_true)]
        exact wpAny_pure (hn s.heap true hz (Heap.SameBut.refl _ _))
      | false =>
        rw [if_pos (show (Value.bool false != Value.bool true) = true from rfl)]
        exact wpAny_bind (wpAny_setField_rec hz (by simp) fun h₃ he₃ hs₃ => wpAny_pure (hn h₃ true he₃ hs₃))
theorem zipN_item {z TI TO i1 i2 l1 l2 : Addr} {k1 k2 : Nat} {xs ys : Array Value} {x y a b f0 : Value} {f1 : Bool} {Q : Value → Shared → Prop} (D : ZipApart z TI TO i1 i2 l1 l2)
    (hf : Own0 f0) (hz : ZipB s.heap z TI TO f0 f1) (hTI : IsPair s.heap TI (.ref i1) (.ref i2)) (hTO : IsPair s.heap TO a b)
    (h1 : s.heap.IsTupleIter i1 l1 k1) (h2 : s.heap.IsTupleIter i2 l2 k2) (hl1 : s.heap.IsTuple l1 xs) (hl2 : s.heap.IsTuple l2 ys) (hx : xs[k1]? = some x) (hy : ys[k2]? = some y)
    (hQ : ∀ h' f0' f1' a' b', Own0 f0' → ZipB h' z TI TO f0' f1' → IsPair h' TO a' b' → h'.IsTupleIter i1 l1 (k1 + 1) → h'.IsTupleIter i2 l2 (k2 + 1) → IsPair h' s.heap.objs.size x y → h'.objs.size = s.heap.objs.size + 1 →
      (∀ c o, c ≠ z → c ≠ TO → c ≠ i1 → c ≠ i2 → s.heap.get? c = some o → h'.get? c = some o) → Q (.ref s.heap.objs.size) { s with heap := h' }) :
    wpAny (model prog w) A (Builtin.«zip.__next__» ⟨[.ref z], []⟩) (fun fin s' => ∃ v, fin = .done (.ret v) ∧ Q v s') E s := by
  show wpAny _ _ (field (.ref z) 2 >>= _) _ _ _
  refine wpAny_bind (wpAny_field hz rfl (x := .bool false) rfl ?_)
  show wpAny _ _ (field (.ref z) 3 >>= _) _ _ _
  refine wpAny_bind (wpAny_field hz rfl (x := .ref TI) rfl ?_)
  refine wpAny_bind (wpAny_seqItems hTI rfl ?_)
  show wpAny _ _ (Builtin.SmallTypes.ownedTupleIsFree (.ref z) >>= _) _ _ _
  refine wpAny_bind (owned_free hf hz ?_ fun h₀ f1' hz₀ hs₀ => ?_)
  · simp only [if_true]
    refine wpAny_bind (wpAny_rule ?_)
    refine wpAny_bind (wpAny_field hz rfl (x := .ref TO) rfl ?_)
    refine wpAny_bind (wpAny_setField_rec hz (by simp) fun h₁ hz₁ hs₁ => ?_)
    replace hz₁ : ZipB h₁ z TI TO .ellipsis f1 := hz₁
    refine wpAny_bind ?_
    simp only [List.zipIdx_cons, List.zipIdx_nil, List.forIn_cons, List.forIn_nil]
    refine wpAny_bind (wpAny_bind (wpAny_onRaise ?_))
    show wpAny _ _ (Builtin.SmallTypes.nextOf (.ref i1) >>= _) _ _ _
    refine wpAny_bind (nextOf_tuple_item (h1.extBut hs₁.extBut D.i1z) (hl1.extBut hs₁.extBut D.l1z) hx fun h₂ h1₂ hs₂ => wpAny_pure ?_)
    have hTO₂ : IsPair h₂ TO a b := hs₂.extBut _ _ D.TOi1 (hs₁.extBut _ _ D.TOz hTO)
    refine wpAny_bind (wpAny_seqItems hTO₂ rfl ?_)
    refine wpAny_bind (wpAny_updateSeq_pair hTO₂ fun h₃ hTO₃ hs₃ => ?_)
    replace hTO₃ : IsPair h₃ TO x b := hTO₃
    refine wpAny_bind (wpAny_letGo (wpAny_pure ?_))
    refine wpAny_bind (wpAny_bind (wpAny_onRaise ?_))
    show wpAny _ _ (Builtin.SmallTypes.nextOf (.ref i2) >>= _) _ _ _
    refine wpAny_bind (nextOf_tuple_item (((h2.extBut hs₁.extBut D.i2z).extBut hs₂.extBut D.i12.symm).extBut hs₃.extBut D.TOi2.symm)
      (((hl2.extBut hs₁.extBut D.l2z).extBut hs₂.extBut D.l2i1).extBut hs₃.extBut D.l2TO) hy fun h₄ h2₄ hs₄ => wpAny_pure ?_)
    have hTO₄ : IsPair h₄ TO x b := hs₄.extBut _ _ D.TOi2 hTO₃
    refine wpAny_bind (wpAny_seqItems hTO₄ rfl ?_)
    refine wpAny_bind (wpAny_updateSeq_pair hTO₄ fun h₅ hTO₅ hs₅ => ?_)
    replace hTO₅ : IsPair h₅ TO x y := hTO₅
    refine wpAny_bind (wpAny_letGo (wpAny_pure (wpAny_pure ?_)))
    refine wpAny_bind (wpAny_seqItems hTO₅ rfl ?_)
    refine wpAny_bind (wpAny_newTuple ?_)
    have hsz : h₅.objs.size = s.heap.objs.size := by rw [hs₅.1, hs₄.1, hs₃.1, hs₂.1, hs₁.1]
    have hz₅ : ZipB h₅ z TI TO .ellipsis f1 := hs₅.extBut _ _ D.TOz.symm (hs₄.extBut _ _ D.i2z.symm (hs₃.extBut _ _ D.TOz.symm (hs₂.extBut _ _ D.i1z.symm hz₁)))
    have hk₅ : ∀ c o, c ≠ z → c ≠ TO → c ≠ i1 → c ≠ i2 → s.heap.get? c = some o → h₅.get? c = some o := fun c o c1 c2 c3 c4 e =>
      hs₅.extBut _ _ c2 (hs₄.extBut _ _ c4 (hs₃.extBut _ _ c2 (hs₂.extBut _ _ c3 (hs₁.extBut _ _ c1 e))))
    have h1₅ : h₅.IsTupleIter i1 l1 (k1 + 1) := ((h1₂.extBut hs₃.extBut D.TOi1.symm).extBut hs₄.extBut D.i12).extBut hs₅.extBut D.TOi1.symm
    have h2₅ : h₅.IsTupleIter i2 l2 (k2 + 1) := h2₄.extBut hs₅.extBut D.TOi2.symm
    have hzlt : z < h₅.objs.size := Heap.lt_size hz₅
    show wpAny _ _ (Builtin.SmallTypes.ownedTupleHandOut (.ref z) (.ref h₅.objs.size) >>= _) _ _ _
    refine wpAny_bind ?_
    unfold Builtin.SmallTypes.ownedTupleHandOut
    have hz₆ : ZipB (h₅.push { cls := .type "tuple", data := .seq #[x, y] }) z TI TO .ellipsis f1 := Heap.get?_push_of_some _ hz₅
    refine wpAny_bind (wpAny_setField_rec hz₆ (by simp) fun h₇ hz₇ hs₇ => ?_)
    replace hz₇ : ZipB h₇ z TI TO (rawInt h₅.objs.size) f1 := hz₇
    refine wpAny_setField_rec hz₇ (by simp) fun h₈ hz₈ hs₈ => ?_
    replace hz₈ : ZipB h₈ z TI TO (rawInt h₅.objs.size) false := hz₈
    have up : ∀ c o, c ≠ z → h₅.get? c = some o → h₈.get? c = some o := fun c o c1 e => hs₈.extBut _ _ c1 (hs₇.extBut _ _ c1 (Heap.get?_push_of_some _ e))
    have hT₈ : IsPair h₈ h₅.objs.size x y := hs₈.extBut _ _ (Nat.ne_of_gt hzlt) (hs₇.extBut _ _ (Nat.ne_of_gt hzlt) (Heap.get?_push_size _ rfl))
    have hz8 : h₈.objs.size = h₅.objs.size + 1 := by rw [hs₈.1, hs₇.1, Heap.size_push]
    rw [hsz] at hz₈ hT₈ hz8
    refine wpAny_pure ⟨_, rfl, ?_⟩
    show Q (.ref h₅.objs.size) _
    rw [hsz]
    exact hQ h₈ _ _ x y (.inr ⟨_, rfl⟩) hz₈ (up _ _ D.TOz hTO₅) (h1₅.at fun o e => up _ o D.i1z e) (h2₅.at fun o e => up _ o D.i2z e) hT₈ hz8 fun c o c1 c2 c3 c4 e => up c o c1 (hk₅ c o c1 c2 c3 c4 e)
  · simp only [Bool.false_eq_true, if_false]
    refine wpAny_bind ?_
    simp only [List.forIn_toArray, List.forIn_cons, List.forIn_nil]
    refine wpAny_bind (wpAny_bind (wpAny_holding ?_))
    show wpAny _ _ (Builtin.SmallTypes.nextOf (.ref i1) >>= _) _ _ _
    refine wpAny_bind (nextOf_tuple_item (h1.extBut hs₀.extBut D.i1z) (hl1.extBut hs₀.extBut D.l1z) hx fun h₂ h1₂ hs₂ => wpAny_pure (wpAny_pure ?_))
    refine wpAny_bind (wpAny_bind (wpAny_holding ?_))
    show wpAny _ _ (Builtin.SmallTypes.nextOf (.ref i2) >>= _) _ _ _
    refine wpAny_bind (nextOf_tuple_item ((h2.extBut hs₀.extBut D.i2z).extBut hs₂.extBut D.i12.symm) ((hl2.extBut hs₀.extBut D.l2z).extBut hs₂.extBut D.l2i1) hy fun h₄ h2₄ hs₄ => wpAny_pure (wpAny_pure (wpAny_pure ?_)))
    have hsz : h₄.objs.size = s.heap.objs.size := by rw [hs₄.1, hs₂.1, hs₀.1]
    have hk₄ : ∀ c o, c ≠ z → c ≠ i1 → c ≠ i2 → s.heap.get? c = some o → h₄.get? c = some o := fun c o c1 c3 c4 e => hs₄.extBut _ _ c4 (hs₂.extBut _ _ c3 (hs₀.extBut _ _ c1 e))
    have hz₄ : ZipB h₄ z TI TO f0 f1' := hs₄.extBut _ _ D.i2z.symm (hs₂.extBut _ _ D.i1z.symm hz₀)
    refine wpAny_bind (wpAny_newTuple ?_ (by show 2 ≤ sizeLine; decide))
    refine wpAny_pure ⟨_, rfl, ?_⟩
    show Q (.ref h₄.objs.size) _
    have hT : IsPair (h₄.push { cls := .type "tuple", data := .seq #[x, y] }) h₄.objs.size x y := Heap.get?_push_size _ rfl
    rw [hsz] at hT ⊢
    exact hQ _ _ _ a b hf (Heap.get?_push_of_some _ hz₄) (Heap.get?_push_of_some _ (hk₄ _ _ D.TOz D.TOi1 D.TOi2 hTO)) ((h1₂.extBut hs₄.extBut D.i12).at fun o e => Heap.get?_push_of_some _ e) (h2₄.at fun o e => Heap.get?_push_of_some _ e) hT (by rw [Heap.size_push, hsz]) fun c o c1 _ c3 c4 e => Heap.get?_push_of_some _ (hk₄ c o c1 c3 c4 e)
theorem zipN_end {z TI TO i1 i2 l1 l2 : Addr} {k1 k2 : Nat} {xs ys : Array Value} {a b f0 : Value} {f1 : Bool} {Q : Fin → Shared → Prop} (hh : A.handled = none) (D : ZipApart z TI TO i1 i2 l1 l2)
    (hf : Own0 f0) (hz : ZipB s.heap z TI TO f0 f1) (hTI : IsPair s.heap TI (.ref i1) (.ref i2)) (hTO : IsPair s.heap TO a b)
    (h1 : s.heap.IsTupleIter i1 l1 k1) (h2 : s.heap.IsTupleIter i2 l2 k2) (hl1 : s.heap.IsTuple l1 xs) (hl2 : s.heap.IsTuple l2 ys) (hend : xs[k1]? = none ∨ ys[k2]? = none)
    (hE : ∀ h' e, (∀ c o, c ≠ z → c ≠ TO → c ≠ i1 → c ≠ i2 → s.heap.get? c = some o → h'.get? c = some o) → (∃ o, h'.get? e = some o ∧ o.cls = .type "StopIteration") → E (.ref e) { s with heap := h' }) :
    wpAny (model prog w) A (Builtin.«zip.__next__» ⟨[.ref z], []⟩) Q E s := by
  show wpAny _ _ (field (.ref z) 2 >>= _) _ _ _
  refine wpAny_bind (wpAny_field hz rfl (x := .bool false) rfl ?_)
  show wpAny _ _ (field (.ref z) 3 >>= _) _ _ _
  refine wpAny_bind (wpAny_field hz rfl (x := .ref TI) rfl ?_)
  refine wpAny_bind (wpAny_seqItems hTI rfl ?_)
  show wpAny _ _ (Builtin.SmallTypes.ownedTupleIsFree (.ref z) >>= _) _ _ _
  refine wpAny_bind (owned_free hf hz ?_ fun h₀ f1' hz₀ hs₀ => ?_)
  · simp only [if_true]
    refine wpAny_bind (wpAny_rule ?_)
    refine wpAny_bind (wpAny_field hz rfl (x := .ref TO) rfl ?_)
    refine wpAny_bind (wpAny_setField_rec hz (by simp) fun h₁ hz₁ hs₁ => ?_)
    replace hz₁ : ZipB h₁ z TI TO .ellipsis f1 := hz₁
    refine wpAny_bind ?_
    simp only [List.zipIdx_cons, List.zipIdx_nil, List.forIn_cons, List.forIn_nil]
    refine wpAny_bind (wpAny_bind (wpAny_onRaise ?_))
    show wpAny _ _ (Builtin.SmallTypes.nextOf (.ref i1) >>= _) _ _ _
    cases hx : xs[k1]? with
    | none =>
      refine wpAny_bind (nextOf_tuple_end hh (h1.extBut hs₁.extBut D.i1z) (hl1.extBut hs₁.extBut D.l1z) hx fun h₂ e hs₂ he => ?_)
      obtain ⟨oe, hoe, hce⟩ := he
      have hz₂ : ZipB h₂ z TI TO .ellipsis f1 := hs₂ _ _ D.i1z.symm hz₁
      have hez : e ≠ z := fun x => by subst x; rw [hz₂] at hoe; cases hoe; simp at hce
      refine wpAny_setField_rec hz₂ (by simp) fun h₃ _ hs₃ => hE h₃ e (fun c o c1 _ c3 _ x => hs₃.extBut _ _ c1 (hs₂ _ _ c3 (hs₁.extBut _ _ c1 x))) ⟨oe, hs₃.extBut _ _ hez hoe, hce⟩
    | some x =>
      have hy : ys[k2]? = none := by rcases hend with h | h; rw [hx] at h; cases h; exact h
      refine wpAny_bind (nextOf_tuple_item (h1.extBut hs₁.extBut D.i1z) (hl1.extBut hs₁.extBut D.l1z) hx fun h₂ h1₂ hs₂ => wpAny_pure ?_)
      have hTO₂ : IsPair h₂ TO a b := hs₂.extBut _ _ D.TOi1 (hs₁.extBut _ _ D.TOz hTO)
      refine wpAny_bind (wpAny_seqItems hTO₂ rfl ?_)
      refine wpAny_bind (wpAny_updateSeq_pair hTO₂ fun h₃ hTO₃ hs₃ => ?_)
      refine wpAny_bind (wpAny_letGo (wpAny_pure ?_))
      refine wpAny_bind (wpAny_bind (wpAny_onRaise ?_))
      show wpAny _ _ (Builtin.SmallTypes.nextOf (.ref i2) >>= _) _ _ _
      refine wpAny_bind (nextOf_tuple_end hh (((h2.extBut hs₁.extBut D.i2z).extBut hs₂.extBut D.i12.symm).extBut hs₃.extBut D.TOi2.symm)
        (((hl2.extBut hs₁.extBut D.l2z).extBut hs₂.extBut D.l2i1).extBut hs₃.extBut D.l2TO) hy fun h₄ e hs₄ he => ?_)
      obtain ⟨oe, hoe, hce⟩ := he
      have hz₄ : ZipB h₄ z TI TO .ellipsis f1 := hs₄ _ _ D.i2z.symm (hs₃.extBut _ _ D.TOz.symm (hs₂.extBut _ _ D.i1z.symm hz₁))
      have hez : e ≠ z := fun x => by subst x; rw [hz₄] at hoe; cases hoe; simp at hce
      refine wpAny_setField_rec hz₄ (by simp) fun h₅ _ hs₅ => hE h₅ e (fun c o c1 c2 c3 c4 x => hs₅.extBut _ _ c1 (hs₄ _ _ c4 (hs₃.extBut _ _ c2 (hs₂.extBut _ _ c3 (hs₁.extBut _ _ c1 x))))) ⟨oe, hs₅.extBut _ _ hez hoe, hce⟩
  · simp only [Bool.false_eq_true, if_false]
    refine wpAny_bind ?_
    simp only [List.forIn_toArray, List.forIn_cons, List.forIn_nil]
    refine wpAny_bind (wpAny_bind (wpAny_holding ?_))
    show wpAny _ _ (Builtin.SmallTypes.nextOf (.ref i1) >>= _) _ _ _
    cases hx : xs[k1]? with
    | none => exact wpAny_bind (nextOf_tuple_end hh (h1.extBut hs₀.extBut D.i1z) (hl1.extBut hs₀.extBut D.l1z) hx fun h₂ e hs₂ he => hE h₂ e (fun c o c1 _ c3 _ x => hs₂ _ _ c3 (hs₀.extBut _ _ c1 x)) he)
    | some x =>
      have hy : ys[k2]? = none := by rcases hend with h | h; rw [hx] at h; cases h; exact h
      refine wpAny_bind (nextOf_tuple_item (h1.extBut hs₀.extBut D.i1z) (hl1.extBut hs₀.extBut D.l1z) hx fun h₂ h1₂ hs₂ => wpAny_pure (wpAny_pure ?_))
      refine wpAny_bind (wpAny_bind (wpAny_holding ?_))
      show wpAny _ _ (Builtin.SmallTypes.nextOf (.ref i2) >>= _) _ _ _
      exact wpAny_bind (nextOf_tuple_end hh ((h2.extBut hs₀.extBut D.i2z).extBut hs₂.extBut D.i12.symm) ((hl2.extBut hs₀.extBut D.l2z).extBut hs₂.extBut D.l2i1) hy fun h₄ e hs₄ he => hE h₄ e (fun c o c1 _ c3 c4 x => hs₄ _ _ c4 (hs₂.extBut _ _ c3 (hs₀.extBut _ _ c1 x))) he)
theorem next_zipN_item {z TI TO i1 i2 l1 l2 : Addr} {k1 k2 : Nat} {xs ys : Array Value} {x y a b f0 : Value} {f1 : Bool} {Q : Option Value → Shared → Prop} (D : ZipApart z TI TO i1 i2 l1 l2)
    (hf : Own0 f0) (hz : ZipB s.heap z TI TO f0 f1) (hTI : IsPair s.heap TI (.ref i1) (.ref i2)) (hTO : IsPair s.heap TO a b)
    (h1 : s.heap.IsTupleIter i1 l1 k1) (h2 : s.heap.IsTupleIter i2 l2 k2) (hl1 : s.heap.IsTuple l1 xs) (hl2 : s.heap.IsTuple l2 ys) (hx : xs[k1]? = some x) (hy : ys[k2]? = some y)
    (hQ : ∀ h' f0' f1' a' b', Own0 f0' → ZipB h' z TI TO f0' f1' → IsPair h' TO a' b' → h'.IsTupleIter i1 l1 (k1 + 1) → h'.IsTupleIter i2 l2 (k2 + 1) → IsPair h' s.heap.objs.size x y → h'.objs.size = s.heap.objs.size + 1 →
      (∀ c o, c ≠ z → c ≠ TO → c ≠ i1 → c ≠ i2 → s.heap.get? c = some o → h'.get? c = some o) → Q (some (.ref s.heap.objs.size)) { s with heap := h' }) :
    wpAny (model prog w) A (pyNext (.ref z)) Q E s := by
  have hT : s.TypeIs (.ref z) "zip" := ⟨_, hz, rfl⟩
  unfold pyNext
  exact wpAny_bind (wpAny_attempt (wpAny_callSpecial?_slot (name := Str.ofString "__next__") hT PySem.F.slot_zip_next
    (wpAny_call_entry PySem.F.slot_zip_next hT PySem.F.entry_zip_next
      (zipN_item D hf hz hTI hTO h1 h2 hl1 hl2 hx hy fun h' f0' f1' a' b' a1 a2 a3 a4 a5 a6 a7 a8 => wpAny_pure (hQ h' f0' f1' a' b' a1 a2 a3 a4 a5 a6 a7 a8)) (PySem.F.args_zip_next_1 _))))
theorem next_zipN_end {z TI TO i1 i2 l1 l2 : Addr} {k1 k2 : Nat} {xs ys : Array Value} {a b f0 : Value} {f1 : Bool} {Q : Option Value → Shared → Prop} (hh : A.handled = none) (D : ZipApart z TI TO i1 i2 l1 l2)
    (hf : Own0 f0) (hz : ZipB s.heap z TI TO f0 f1) (hTI : IsPair s.heap TI (.ref i1) (.ref i2)) (hTO : IsPair s.heap TO a b)
    (h1 : s.heap.IsTupleIter i1 l1 k1) (h2 : s.heap.IsTupleIter i2 l2 k2) (hl1 : s.heap.IsTuple l1 xs) (hl2 : s.heap.IsTuple l2 ys) (hend : xs[k1]? = none ∨ ys[k2]? = none)
    (hQ : ∀ h', (∀ c o, c ≠ z → c ≠ TO → c ≠ i1 → c ≠ i2 → s.heap.get? c = some o → h'.get? c = some o) → Q none { s with heap := h' }) : wpAny (model prog w) A (pyNext (.ref z)) Q E s := by
  have hT : s.TypeIs (.ref z) "zip" := ⟨_, hz, rfl⟩
  unfold pyNext
  refine wpAny_bind (wpAny_attempt (wpAny_callSpecial?_slot (name := Str.ofString "__next__") hT PySem.F.slot_zip_next
    (wpAny_call_entry PySem.F.slot_zip_next hT PySem.F.entry_zip_next (zipN_end hh D hf hz hTI hTO h1 h2 hl1 hl2 hend fun h' e hk he => ?_) (PySem.F.args_zip_next_1 _))))
  obtain ⟨o, ho, hc⟩ := he
  refine wpAny_bind (wpAny_isInstance (T := "StopIteration") (b := true) ⟨o, ho, hc⟩ isSubtype_stop ?_)
  exact wpAny_pure (hQ _ hk)
theorem iter_zipB {z TI TO : Addr} {f0 : Value} {f1 : Bool} {Q : Value → Shared → Prop} (hz : ZipB s.heap z TI TO f0 f1) (h : Q (.ref z) s) : wpAny (model prog w) A (pyIter (.ref z)) Q E s := by
  have hT : s.TypeIs (.ref z) "zip" := ⟨_, hz, rfl⟩
  refine wpAny_pyIter_slot hT PySem.F.slot_zip_iter (wpAny_call_entry PySem.F.slot_zip_iter hT PySem.F.entry_zip_iter ?_ (PySem.F.args_zip_iter_1 _))
  show wpAny _ _ (ret (.ref z)) _ _ s
  exact wpAny_pure ⟨_, rfl, "zip", _, hT, PySem.F.slot_zip_next.lookup, h⟩
end
theorem turn_zipN {P : Program} {w : World} {K : PySem.W.Frag} {n : Str} {tpos : Pos} {a b z TI TO i1 i2 : Addr} (D : ZipApart z TI TO i1 i2 a b) :
    Turn P w K (.Name n tpos) (ItzT K a b) [z, TI, TO, i1, i2] z (fun i h => (∃ f0 f1, Own0 f0 ∧ ZipB h z TI TO f0 f1) ∧ IsPair h TI (.ref i1) (.ref i2) ∧ (∃ x y, IsPair h TO x y) ∧ h.IsTupleIter i1 a i ∧ h.IsTupleIter i2 b i) where
  mem := by simp
  obj := fun i h st c hc => by
    obtain ⟨⟨f0, f1, hf, hz⟩, hTI, ⟨x, y, hTO⟩, ⟨o1, e1, _, d1⟩, ⟨o2, e2, _, d2⟩⟩ := st
    have e' : c = z ∨ c = TI ∨ c = TO ∨ c = i1 ∨ c = i2 := by simpa using hc
    rcases e' with q | q | q | q | q
    · rw [q]; exact ⟨_, hz, fun v q => nomatch q⟩
    · rw [q]; exact ⟨_, hTI, fun v q => nomatch q⟩
    · rw [q]; exact ⟨_, hTO, fun v q => nomatch q⟩
    · rw [q]; exact ⟨o1, e1, fun v q => by rw [d1] at q; cases q⟩
    · rw [q]; exact ⟨o2, e2, fun v q => by rw [d2] at q; cases q⟩
  keep := fun i h h' st k => by
    obtain ⟨⟨f0, f1, hf, hz⟩, hTI, ⟨x, y, hTO⟩, h1, h2⟩ := st
    exact ⟨⟨f0, f1, hf, k z (by simp) _ hz⟩, k TI (by simp) _ hTI, ⟨x, y, k TO (by simp) _ hTO⟩, h1.at fun o q => k i1 (by simp) o q, h2.at fun o q => k i2 (by simp) o q⟩
  item := by
    intro X hP hw hK hc i pins s σ H E I hfp st hg
    subst hP hw hK
    obtain ⟨⟨f0, f1, hf, hz⟩, hTI, ⟨x0, y0, hTO⟩, h1, h2⟩ := st
    obtain ⟨xs, ys, x, y, hqx, hqy, hx, hy⟩ := hg
    obtain ⟨its, rv, p, _⟩ := I.tuple hqx
    obtain ⟨its2, rv2, p2, _⟩ := I.tuple hqy
    obtain ⟨u, hu, ru⟩ := rv.get hx
    obtain ⟨u2, hu2, ru2⟩ := rv2.get hy
    have hzl : z < s.heap.objs.size := Heap.lt_size hz
    refine next_zipN_item D hf hz hTI hTO h1 h2 p p2 (x := u) (y := u2) (by simpa using hu) (by simpa using hu2) fun h' f0' f1' a' b' hf' z' TO' h1' h2' hT hsz hk => ?_
    refine ⟨_, rfl, ?_⟩
    unfold letOwnedTupleGo
    refine wpAny_pure ?_
    have new : ObjOk X.prog X.w (upd H s.heap.objs.size (.tup [x, y])) h' s.heap.objs.size (.tup [x, y]) :=
      ⟨by show 2 ≤ sizeLine; decide, [u, u2], .cons ru (.cons ru2 .nil), ⟨_, hT, rfl, _, rfl⟩⟩
    have I1 : Inv X pins σ (upd H s.heap.objs.size (.tup [x, y])) { s with heap := h' } :=
      I.turnedNew (t' := s.toks) (ch := [z, TI, TO, i1, i2]) (fun c o hb q => hk c o (fun q' => hb (by simp [q'])) (fun q' => hb (by simp [q'])) (fun q' => hb (by simp [q'])) (fun q' => hb (by simp [q'])) q) hfp (Nat.le_refl _) new
    refine ⟨.ref s.heap.objs.size, _, I1, rfl, ⟨_, x, y, rfl, I.hok.fresh (Nat.le_refl _), rfl, fun l hl => by rw [I.tuple_inj hl hqx]; exact hx, fun l hl => by rw [I.tuple_inj hl hqy]; exact hy⟩, ⟨⟨f0', f1', hf', z'⟩, hk _ _ D.TIz D.TITO D.TIi1 D.TIi2 hTI, ⟨a', b', TO'⟩, h1', h2'⟩, fun c hcm => ?_⟩
    have hlt : c < s.heap.objs.size := by
      have e' : c = z ∨ c = TI ∨ c = TO ∨ c = i1 ∨ c = i2 := by simpa using hcm
      rcases e' with q | q | q | q | q
      · rw [q]; exact hzl
      · rw [q]; exact Heap.lt_size hTI
      · rw [q]; exact Heap.lt_size hTO
      · rw [q]; obtain ⟨_, e1, _⟩ := h1; exact Heap.lt_size e1
      · rw [q]; obtain ⟨_, e2, _⟩ := h2; exact Heap.lt_size e2
    rw [upd_ne (Nat.ne_of_lt hlt)]
    exact (hfp c hcm).1
  done := by
    intro X hP hw hK hc i pins s σ H E I hfp st hg
    subst hP hw hK
    obtain ⟨⟨f0, f1, hf, hz⟩, hTI, ⟨x0, y0, hTO⟩, h1, h2⟩ := st
    obtain ⟨xs, ys, hqx, hqy, hend⟩ := hg
    obtain ⟨its, rv, p, _⟩ := I.tuple hqx
    obtain ⟨its2, rv2, p2, _⟩ := I.tuple hqy
    have l1 := rv.length
    have l2 := rv2.length
    have he : its.toArray[i]? = none ∨ its2.toArray[i]? = none := by
      rcases hend with q | q
      · exact .inl (by simp; omega)
      · exact .inr (by simp; omega)
    exact next_zipN_end (I.ok.hd hc) D hf hz hTI hTO h1 h2 p p2 he fun h' hk => ⟨rfl, I.turnedL (t' := s.toks) (ch := [z, TI, TO, i1, i2]) (fun c o hb q =>
      hk c o (fun q' => hb (by simp [q'])) (fun q' => hb (by simp [q'])) (fun q' => hb (by simp [q'])) (fun q' => hb (by simp [q'])) q) hfp⟩
  self := fun A i s Q E st h => by
    obtain ⟨⟨f0, f1, hf, hz⟩, _⟩ := st
    exact iter_zipB hz h
def iZipN (K : PySem.W.Frag) (ta : TA) : TI := fun σ H R => ta σ H fun vs H1 => ∃ a b xs ys, vs = [.ref a, .ref b] ∧ SqT K H1 a xs ∧ SqT K H1 b ys ∧ R (ItzT K a b) H1
theorem pi_zipN {X : Cx} {e e2 : Expr} {ta : TA} {p pos tpos : Pos} {n : Str} (hg : Gl X "zip") (hm : X.mg "zip" = none) (ha : PA X [e, e2] ta)
    (hs : starEach [e, e2] X.env = (false, eval e X.env) :: starEach [e2] X.env := by rfl) (hpl : (backTo pos (starEach [e2] X.env)).any (·.1) = false := by rfl) :
    PI X (.Name n tpos) (.Call (.Name "zip" p) [e, e2] [] pos) (iZipN X.K ta) := by
  refine ⟨fun pins s σ H R I h => ?_⟩
  refine Call_ (ld_blt I hg hm PyProof.Rows.boot_zip (PyProof.Rows.callWith_type1 (thn (ha.run pos pins s σ H _ I h) fun us s1 ⟨vs, H1, I1, r1, q1⟩ => ?_) hs hpl))
  obtain ⟨a, b, xs, ys, ex, hqx, hqy, q⟩ := q1
  subst ex
  cases r1 with
  | cons r rr =>
    cases rr with
    | cons r' rr =>
      cases rr
      cases r
      cases r'
      have fresh5 : ∀ c, c ∈ [s1.heap.objs.size + 4, s1.heap.objs.size + 2, s1.heap.objs.size + 3, s1.heap.objs.size, s1.heap.objs.size + 1] → FpOk X pins H1 c := fun c hcm => by
        have hle : s1.heap.objs.size ≤ c := by
          have e' : c = s1.heap.objs.size + 4 ∨ c = s1.heap.objs.size + 2 ∨ c = s1.heap.objs.size + 3 ∨ c = s1.heap.objs.size ∨ c = s1.heap.objs.size + 1 := by simpa using hcm
          have go : ∀ m : Nat, m ≤ m + 4 ∧ m ≤ m + 2 ∧ m ≤ m + 3 ∧ m ≤ m + 1 := fun m => ⟨by omega, by omega, by omega, by omega⟩
          have g := go s1.heap.objs.size
          rcases e' with z | z | z | z | z
          · rw [z]; exact g.1
          · rw [z]; exact g.2.1
          · rw [z]; exact g.2.2.1
          · rw [z]; exact Nat.le_refl _
          · rw [z]; exact g.2.2.2
        exact I1.fpOk hle (I1.hok.fresh hle)
      obtain ⟨its, rv, p1, _⟩ := I1.tuple hqx
      obtain ⟨its2, rv2, p2, _⟩ := I1.tuple hqy
      obtain ⟨o1, ho1, _⟩ := id p1
      obtain ⟨o2, ho2, _⟩ := id p2
      refine call_zipT (show s1.heap.IsTuple a its.toArray from p1) (show s1.heap.IsTuple b its2.toArray from p2) fun h' hz hTI hTO h1 h2 hsz hk => wpAny_pyIter_zip hz ?_
      have I2 : Inv X pins σ H1 { s1 with heap := h' } := I1.kept (t' := s1.toks) hk
      exact ⟨s1.heap.objs.size + 4, [s1.heap.objs.size + 4, s1.heap.objs.size + 2, s1.heap.objs.size + 3, s1.heap.objs.size, s1.heap.objs.size + 1], _, _, H1, rfl, I2, turn_zipN (PySem.W.ktu_apart s1.heap.objs.size a b (Heap.lt_size ho1) (Heap.lt_size ho2)), ⟨⟨.none, false, .inl rfl, hz⟩, hTI, ⟨_, _, hTO⟩, h1, h2⟩, fresh5, q⟩
section
variable {X : Cx} {G : Gx} {e e2 : Expr} {p pos : Pos} {cs cs1 : List Cell}
theorem ei_zipN {xs ys : List D} {zp tpos : Pos} {n : Str} (h : EvV G (rdA X [e, e2]) cs [.tup xs, .tup ys] cs1) (hg : Gl X "zip") (hm : X.mg "zip" = none)
    (hs : starEach [e, e2] X.env = (false, eval e X.env) :: starEach [e2] X.env := by rfl) (hpl : (backTo pos (starEach [e2] X.env)).any (·.1) = false := by rfl) (hK : G.K = X.K := by rfl) :
    EvI G (rdI X (.Name n tpos) (.Call (.Name "zip" zp) [e, e2] [] pos)) cs (List.zipWith (fun x y => .tup [x, y]) xs ys) cs1 :=
  ei_of (pi_zipN hg hm pa_rd hs hpl) fun F σ H R rl q => h F σ H _ rl fun vs F1 H1 st1 r1 q1 => by
    obtain ⟨v1, r, rfl, ⟨a, us, rfl, h1, h2⟩, v2, r', rfl, ⟨b, ws, rfl, h3, h4⟩, h5⟩ := q1
    cases h5
    have tt : ∀ {a : Addr} {us : List V} {F2 : Hp} {H2 : Hp}, SqT G.K F1 a us → Same F1 F2 → Same F2 H2 → SqT X.K H2 a us := fun hq s1 s2 => by rw [← hK]; exact same_t (s1.trans s2) hq
    refine ⟨a, b, us, ws, rfl, by rw [← hK]; exact same_t r1.sub h1, by rw [← hK]; exact same_t r1.sub h3, q _ F1 H1 st1 r1 fun F2 H2 s1 s2 => ⟨fun i d hd => ?_, ?_⟩⟩
    · have ha := tt h1 s1 s2
      have hb := tt h3 s1 s2
      rw [List.getElem?_zipWith] at hd
      cases ex : xs[i]? with
      | none => rw [ex] at hd; cases hd
      | some x =>
        cases ey : ys[i]? with
        | none => rw [ex, ey] at hd; cases hd
        | some y =>
          rw [ex, ey] at hd
          cases hd
          obtain ⟨vx, e1, i1⟩ := h2.get ex
          obtain ⟨vy, e2, i2⟩ := h4.get ey
          refine ⟨⟨us, ws, vx, vy, ha, hb, e1, e2⟩, ?_⟩
          rintro z H3 ⟨T, x', y', rfl, hT, rfl, q1, q2⟩
          have z1 := q1 _ ha
          have z2 := q2 _ hb
          rw [e1] at z1; cases z1
          rw [e2] at z2; cases z2
          have g := grow_know (o := .tup [vx, vy]) s2 hT
          exact ⟨_, g, T, _, rfl, SqT.of upd_same, vx, [vy], rfl, Is.mono (s1.trans g.fsub) _ i1, vy, [], rfl, Is.mono (s1.trans g.fsub) _ i2, rfl⟩
    · refine ⟨us, ws, tt h1 s1 s2, tt h3 s1 s2, ?_⟩
      rw [h2.length, h4.length, List.length_zipWith]; omega
end
end Fx

/-! slices of tuples. -/
namespace Fx
open PySem L2
section
variable {X : Cx} {G : Gx} {e : Expr} {pos : Pos} {cs cs1 cs2 cs3 : List Cell}
theorem ev_sliceT {lo hi : Option Expr} {p2 : Pos} {tl th : TO} {ol oh : Option Int} {xs : List D} (hl : PO X lo tl) (hh : PO X hi th) (h : Ev G (rdE X e) cs (.tup xs) cs1) (h1 : EvS G tl cs1 ol cs2) (h2 : EvS G th cs2 oh cs3) (hK : G.K = X.K := by rfl) :
    Ev G (rdE X (.Subscript e (.Slice lo hi none p2) pos)) cs (.tup ((xs.drop (HT.sIx xs.length 0 ol)).take (HT.sIx xs.length xs.length oh - HT.sIx xs.length 0 ol))) cs3 :=
  ev_of (pe_slice sl_tupA pe_rd hl hh) fun F σ H Q rl q => h F σ H _ rl fun v F1 H1 st1 r1 q1 => h1 F1 σ H1 _ r1 fun F2 H2 st2 r2 => h2 F2 σ H2 _ r2 fun F3 H3 st3 r3 => by
    obtain ⟨a, vs, rfl, h5, h6⟩ := q1
    have up := st2.fsub.trans st3.fsub
    have hlen := h6.length
    have s3 : SqT G.K F3 a vs := same_t up h5
    refine ⟨a, vs, rfl, by rw [← hK]; exact same_t r3.sub s3, fun hw => ?_, fun hw p hp => ?_⟩
    · refine q _ F3 H3 ((st1.trans st2).trans st3) r3 ⟨a, vs, rfl, s3, ?_⟩
      rw [hlen] at hw
      rw [hw.1, hw.2, List.drop_zero, Nat.sub_zero, List.take_length]
      exact IsAll.mono up xs h6
    · have g := grow_know (o := .tup (cutV vs ol oh)) r3.sub hp
      refine q _ _ _ (((st1.trans st2).trans st3).trans g.stp) (r3.grow g) ⟨p, _, rfl, SqT.of upd_same, ?_⟩
      have hq : IsAll G F3 ((xs.drop (HT.sIx xs.length 0 ol)).take (HT.sIx xs.length xs.length oh - HT.sIx xs.length 0 ol)) (cutV vs ol oh) := by
        unfold cutV
        rw [hlen]
        exact IsAll.take _ (IsAll.drop _ (IsAll.mono up xs h6))
      exact IsAll.mono g.fsub _ hq
end
end Fx

/-! match of a text with cases that are texts. -/
namespace Fx
open PySem L2
/-- what the cases do with a text -/
def rdC (X : Cx) (cases : List MatchCase) (u : Str) : TS := fun D σ H => ∀ (first : Bool) (v : Value) (pins : List (Addr × Obj)) (s : Shared), RelV (.str u) v → Inv X pins σ H s → wpAny (model X.prog X.w) X.A (matchCases cases X.env v first) (SP X pins D) X.xe s
section
variable {X : Cx} {G : Gx} {e : Expr} {pos p p2 : Pos} {cs cs1 : List Cell} {P : Post} {u t : Str} {cases rest : List MatchCase} {body : List Stmt} {j : Nat}
theorem sx_match (h : Ev G (rdE X e) cs (.str u) cs1) (hc : Sx G (rdC X cases u) cs1 P) : Sx G (rdS X (.Match e cases pos)) cs P := fun F σ H D rl k1 k2 k3 k4 k5 pins s I =>
  wpAny_Match (thn (h F σ H (fun v H1 => v = .str u ∧ rdC X cases u D σ H1) rl (fun v F1 H1 st r q => ⟨q, hc F1 σ H1 D r (k1.after st) (k2.after st) (k3.after st) (k4.after st) (k5.after st)⟩) pins s I) fun v s1 ⟨x, H1, I1, rx, e, q⟩ => q true v pins s1 (e ▸ rx) I1)
theorem mc_nil (h : P.nx cs) : Sx G (rdC X [] u) cs P := fun F σ H D rl k1 k2 k3 k4 k5 first v pins s rv I =>
  wpAny_matchCases_nil (show SP X pins D .next s from ⟨σ, H, I, k1 cs σ F H h .refl rl⟩)
theorem mc_eq {Q : Option (List (Str × Value)) → Shared → Prop} {pins : List (Addr × Obj)} {s : Shared} {σ : L2.St} {H : Hp} {v : Value} (rv : RelV (.str u) v) (I : Inv X pins σ H s) (h : ∀ s1, Inv X pins σ H s1 → if decide (u = t) then Q (some []) s1 else Q none s1) :
    wpAny (model X.prog X.w) X.A (matchPattern (.MatchValue (.Constant (.str t) j p) p2) X.env v) Q X.xe s := by
  refine wpAny_matchPattern_Value (thn ((pe_str (x := t) (j := j) (pos := p)).run pins s σ H (fun x H1 => x = .str t ∧ H1 = H) I ⟨rfl, rfl⟩) fun w s1 ⟨x, H1, I1, rw', e1, e2⟩ => ?_)
  subst e1 e2
  refine thn (op_eq pins s1 σ H1 _ _ v w (fun x H2 => x = .bl (decide (u = t)) ∧ H2 = H1) I1 rv rw' ?_) fun c s2 ⟨x, H2, I2, rc, e1, e2⟩ => ?_
  · refine ⟨rfl, ?_, rfl⟩
    rw [show decide (V.str u = V.str t) = decide (u = t) by rw [dec_str, Bool.beq_eq_decide_eq]]
  · subst e1 e2
    cases rc
    exact wpAny_truthy_bool (h s2 I2)
theorem mc_hit (hb : Sx G (rdSs X body) cs P) : Sx G (rdC X (⟨.MatchValue (.Constant (.str u) j p) p2, none, body⟩ :: rest) u) cs P := fun F σ H D rl k1 k2 k3 k4 k5 first v pins s rv I => by
  refine wpAny_matchCases_cons (mc_eq rv I fun s1 I1 => ?_)
  rw [if_pos (by simp)]
  exact wpAny_pure (hb F σ H D rl k1 k2 k3 k4 k5 pins s1 I1)
theorem mc_miss (hn : u ≠ t) (hb : Sx G (rdC X rest u) cs P) : Sx G (rdC X (⟨.MatchValue (.Constant (.str t) j p) p2, none, body⟩ :: rest) u) cs P := fun F σ H D rl k1 k2 k3 k4 k5 first v pins s rv I => by
  refine wpAny_matchCases_cons (mc_eq rv I fun s1 I1 => ?_)
  rw [if_neg (by simpa using hn)]
  exact hb F σ H D rl k1 k2 k3 k4 k5 false v pins s1 rv I1
end
end Fx

/-! dicts of ours: {}, d.get(k, x), d[k], d[k] = x. -/
namespace Fx
open PySem L2
def kD : Key → D
  | .inl i => .int i
  | .inr x => .str x
def valD (kvs : List (Key × D)) (k : Key) : Option D := (kvs.find? fun kv => decide (kv.1 = k)).map (·.2)
def putKD (kvs : List (Key × D)) (k : Key) (d : D) : List (Key × D) :=
  if (kvs.any fun kv => decide (kv.1 = k)) = true then kvs.map (fun kv => if kv.1 = k then (kv.1, d) else kv) else kvs ++ [(k, d)]
theorem valD_map (k k' : Key) (d : D) : ∀ kvs : List (Key × D), valD (kvs.map fun kv => if kv.1 = k then (kv.1, d) else kv) k' = if k' = k then (valD kvs k').map fun _ => d else valD kvs k'
  | [] => by simp [valD]
  | (q, e) :: kvs => by
    have ih := valD_map k k' d kvs
    unfold valD at ih ⊢
    rw [List.map_cons]
    by_cases h1 : q = k
    · rw [if_pos h1]
      by_cases h2 : q = k'
      · rw [List.find?_cons_of_pos (by simpa using h2), List.find?_cons_of_pos (by simpa using h2), if_pos (h2.symm.trans h1)]
        rfl
      · rw [List.find?_cons_of_neg (by simpa using h2), List.find?_cons_of_neg (by simpa using h2)]
        exact ih
    · rw [if_neg h1]
      by_cases h2 : q = k'
      · rw [List.find?_cons_of_pos (by simpa using h2), if_neg (fun e => h1 (h2.trans e)), List.find?_cons_of_pos (by simpa using h2)]
      · rw [List.find?_cons_of_neg (by simpa using h2), List.find?_cons_of_neg (by simpa using h2)]
        exact ih
theorem valD_any {k : Key} : ∀ {kvs : List (Key × D)}, (kvs.any fun kv => decide (kv.1 = k)) = (valD kvs k).isSome
  | [] => rfl
  | (q, e) :: kvs => by
    have ih := valD_any (k := k) (kvs := kvs)
    rw [List.any_cons, ih]
    unfold valD
    by_cases h : q = k
    · rw [List.find?_cons_of_pos (by simpa using h), decide_eq_true h]
      rfl
    · rw [List.find?_cons_of_neg (by simpa using h), decide_eq_false h]
      rfl
theorem valD_put (kvs : List (Key × D)) (k k' : Key) (d : D) : valD (putKD kvs k d) k' = if k' = k then some d else valD kvs k' := by
  unfold putKD
  split
  · rename_i h
    rw [valD_map]
    by_cases e : k' = k
    · rw [if_pos e, if_pos e]
      rw [valD_any] at h
      subst e
      cases q : valD kvs k' with
      | none => rw [q] at h; cases h
      | some x => rfl
    · rw [if_neg e, if_neg e]
  · rename_i h
    unfold valD
    rw [List.find?_append]
    by_cases e : k' = k
    · subst e
      rw [if_pos rfl]
      have hn : valD kvs k' = none := by
        rw [valD_any] at h
        cases q : valD kvs k' with
        | none => rfl
        | some x => rw [q] at h; exact absurd rfl h
      have hf : kvs.find? (fun kv => decide (kv.1 = k')) = none := by
        unfold valD at hn
        simpa using hn
      rw [hf]
      simp
    · rw [if_neg e]
      have : ([(k, d)] : List (Key × D)).find? (fun kv => decide (kv.1 = k')) = none := by
        rw [List.find?_cons_of_neg (by simpa using fun z => e z.symm)]
        rfl
      rw [this, Option.or_none]
theorem putKD_len (kvs : List (Key × D)) (k : Key) (d : D) : (putKD kvs k d).length ≤ kvs.length + 1 := by
  unfold putKD
  split
  · rw [List.length_map]; omega
  · rw [List.length_append]; exact Nat.le_refl _
theorem is_key {G : Gx} {F : Hp} {k : Key} {v : V} (h : Is G F (kD k) v) : v = kV k := by
  cases k with
  | inl i => exact h
  | inr x => exact h
/-- what stands at a dict -/
def DicAt (G : Gx) (F : Hp) (kvs : List (Key × D)) (ws : List (Key × V)) : Prop := ws.map (·.1) = kvs.map (·.1) ∧ IsAll G F (kvs.map (·.2)) (ws.map (·.2))
section
variable {G : Gx} {F : Hp}
theorem dic_nil : DicAt G F [] [] := ⟨rfl, rfl⟩
theorem DicAt.cons {k : Key} {d : D} {kvs : List (Key × D)} {w : List (Key × V)} (h : DicAt G F ((k, d) :: kvs) w) : ∃ v ws, w = (k, v) :: ws ∧ Is G F d v ∧ DicAt G F kvs ws := by
  obtain ⟨h1, v, r, h2, h3, h4⟩ := h
  cases w with
  | nil => cases h1
  | cons x ws =>
    obtain ⟨k', v'⟩ := x
    simp only [List.map_cons, List.cons.injEq] at h1 h2
    obtain ⟨rfl, h1⟩ := h1
    obtain ⟨rfl, h2⟩ := h2
    subst h2
    exact ⟨v', ws, rfl, h3, h1, h4⟩
theorem DicAt.put1 {k : Key} {d : D} {v : V} {kvs : List (Key × D)} {ws : List (Key × V)} (hd : Is G F d v) (h : DicAt G F kvs ws) : DicAt G F ((k, d) :: kvs) ((k, v) :: ws) :=
  ⟨by simp only [List.map_cons, h.1], v, _, rfl, hd, h.2⟩
theorem DicAt.get : ∀ {kvs : List (Key × D)} {ws : List (Key × V)} (k : Key), DicAt G F kvs ws → (valD kvs k = none ∧ valV ws k = none) ∨ ∃ d v, valD kvs k = some d ∧ valV ws k = some v ∧ Is G F d v
  | [], ws, k, h => by
    have : ws = [] := by
      cases ws with
      | nil => rfl
      | cons x y => cases h.1
    subst this
    exact .inl ⟨rfl, rfl⟩
  | (k', d) :: kvs, ws, k, h => by
    obtain ⟨v, ws, rfl, hd, h⟩ := h.cons
    by_cases e : k' = k
    · subst e
      exact .inr ⟨d, v, by simp [valD], by simp [valV], hd⟩
    · rcases DicAt.get k h with ⟨h1, h2⟩ | ⟨d', v', h1, h2, h3⟩
      · exact .inl ⟨by unfold valD at h1 ⊢; rw [List.find?_cons_of_neg (by simpa using e)]; exact h1, by unfold valV at h2 ⊢; rw [List.find?_cons_of_neg (by simpa using e)]; exact h2⟩
      · exact .inr ⟨d', v', by unfold valD at h1 ⊢; rw [List.find?_cons_of_neg (by simpa using e)]; exact h1, by unfold valV at h2 ⊢; rw [List.find?_cons_of_neg (by simpa using e)]; exact h2, h3⟩
theorem DicAt.any : ∀ {kvs : List (Key × D)} {ws : List (Key × V)} (k : Key), DicAt G F kvs ws → (ws.any fun kv => decide (kv.1 = k)) = kvs.any fun kv => decide (kv.1 = k)
  | [], ws, k, h => by
    cases ws with
    | nil => rfl
    | cons x y => cases h.1
  | (k', d) :: kvs, ws, k, h => by
    obtain ⟨v, ws, rfl, hd, h⟩ := h.cons
    rw [List.any_cons, List.any_cons, DicAt.any k h]
theorem DicAt.mapp {k : Key} {d : D} {v : V} (hd : Is G F d v) : ∀ {kvs : List (Key × D)} {ws : List (Key × V)}, DicAt G F kvs ws → DicAt G F (kvs.map fun kv => if kv.1 = k then (kv.1, d) else kv) (ws.map fun kv => if kv.1 = k then (kv.1, v) else kv)
  | [], ws, h => by
    cases ws with
    | nil => exact h
    | cons x y => cases h.1
  | (k', d') :: kvs, ws, h => by
    obtain ⟨v', ws, rfl, hd', h⟩ := h.cons
    have ih := DicAt.mapp (k := k) hd h
    rw [List.map_cons, List.map_cons]
    by_cases e : k' = k
    · rw [if_pos e, if_pos e]
      exact ih.put1 hd
    · rw [if_neg e, if_neg e]
      exact ih.put1 hd'
theorem DicAt.snoc {k : Key} {d : D} {v : V} (hd : Is G F d v) : ∀ {kvs : List (Key × D)} {ws : List (Key × V)}, DicAt G F kvs ws → DicAt G F (kvs ++ [(k, d)]) (ws ++ [(k, v)])
  | [], ws, h => by
    cases ws with
    | nil => exact dic_nil.put1 hd
    | cons x y => cases h.1
  | (k', d') :: kvs, ws, h => by
    obtain ⟨v', ws, rfl, hd', h⟩ := h.cons
    exact (DicAt.snoc hd h).put1 hd'
theorem DicAt.put {k : Key} {d : D} {v : V} {kvs : List (Key × D)} {ws : List (Key × V)} (hd : Is G F d v) (h : DicAt G F kvs ws) : DicAt G F (putKD kvs k d) (putK ws k v) := by
  unfold putKD putK
  rw [h.any k]
  split
  · exact h.mapp hd
  · exact h.snoc hd
theorem DicAt.len {kvs : List (Key × D)} {ws : List (Key × V)} (h : DicAt G F kvs ws) : ws.length = kvs.length := by
  have := congrArg List.length h.1
  simpa using this
end
theorem Rel.dic {G : Gx} {F H : Hp} {σ : L2.St} {cs : List Cell} (r : Rel G F σ H cs) {i : Nat} {l : Addr} {kvs : List (Key × D)} (e : cs[i]? = some (.dic l kvs)) : ∃ ws, σ[i]? = some (some (.ref l)) ∧ H l = some (.dK ws) ∧ F l = none ∧ DicAt G F kvs ws := by
  obtain ⟨u, h1, h2, h3, ws, rfl, h4, h5⟩ := r.owned e rfl
  exact ⟨ws, h1, h2, h3, h4, h5⟩
section
variable {X : Cx} {G : Gx} {e e2 : Expr} {pos np p p2 apos : Pos} {cs cs1 cs2 : List Cell} {P : Post} {n : Str} {l : Addr} {kvs : List (Key × D)} {k : Key} {d : D} {i : Nat}
/-- name = {} -/
theorem sx_setDic (i : Nat) (hp : ∀ l, P.nx (cs.set i (.dic l []))) (hN : X.N.Nodup) (hi : X.N[i]? = some n) (hx : Loc X.env.scope n) (hf : X.fn n = true ∨ X.env.scope.names.lookup n = some .local) (hs : swapsWith (.Dict [] [] p) (some (.Name n np)) pos.line X.env = pure false := by rfl) :
    Sx G (rdS X (.Assign [.Name n np] (.Dict [] [] p) pos)) cs P :=
  sx_of (ps_set (i := i) hN hi hx pe_dnewK hs hf) fun F σ H E rl k1 _ _ _ _ => fun q hq => by
    have g := grow_new (o := .dK []) rl.sub hq
    have hF : F q = none := by
      cases e : F q with
      | none => rfl
      | some u => rw [rl.sub q u e] at hq; cases hq
    have r2 := rl.grow g
    have no : ¬ Owns cs q := rl.notOwns hq
    refine k1 _ _ F _ (hp q) ?_ (r2.setCell (c := .dic q []) rfl upd_same hF ⟨[], rfl, dic_nil⟩ no)
    have st := g.stp (O := Owns cs)
    refine ⟨st.fsub, st.frame, st.fresh, fun a z => ?_, st.back⟩
    rcases z.set with z | z
    · exact st.own a z
    · (cases z; exact .inr hq)
/-- d.get(k, x) -/
theorem ev_dget2 (i : Nat) (hc : cs[i]? = some (.dic l kvs)) (hk : Ev G (rdE X e) cs (kD k) cs) (hd : Ev G (rdE X e2) cs d cs) (hu : X.A.units + 1 < cLine) (m : M2 X (.Name n np) "get" apos e e2 pos) (hN : X.N[i]? = some n) (hv : Vis X.env.scope n) (hdb : (n == ("__debug__" : Str)) = false := by decide) (hcd : (n == ("__classdict__" : Str)) = false := by decide) :
    Ev G (rdE X (.Call (.Attribute (.Name n np) "get" apos) [e, e2] [] pos)) cs ((valD kvs k).getD d) cs :=
  ev_of (pe_dget2 hu (pe_var hN hv hdb hcd) pe_rd pe_rd m) fun F σ H Q rl q => by
    obtain ⟨ws, h1, h2, h3, h4⟩ := rl.dic hc
    refine ⟨.ref l, h1, l, rfl, .inl ⟨ws, .inl h2⟩, hk F σ H _ rl fun v F1 H1 st1 r1 q1 => hd F1 σ H1 _ r1 fun z F2 H2 st2 r2 q2 => ?_⟩
    obtain ⟨ws2, _, h6, h7, h8⟩ := r2.dic hc
    have ek := is_key q1
    subst ek
    refine ⟨valV ws2 k, DGet.k h6, ?_⟩
    rcases h8.get k with ⟨e1, e2⟩ | ⟨d', v', e1, e2, e3⟩
    · rw [e2]
      exact q _ F2 H2 (st1.trans st2) r2 (by rw [e1]; exact q2)
    · rw [e2]
      exact q _ F2 H2 (st1.trans st2) r2 (by rw [e1]; exact e3)
/-- d[k] = x -/
theorem sx_dput (i : Nat) (hd : Ev G (rdE X e2) cs d cs) (hk : Ev G (rdE X e) cs (kD k) cs) (hc : cs[i]? = some (.dic l kvs)) (hl : kvs.length < 1000000) (hp : P.nx (cs.set i (.dic l (putKD kvs k d)))) (hu : X.A.units + 1 < cLine) (hN : X.N[i]? = some n) (hv : Vis X.env.scope n) (hdb : (n == ("__debug__" : Str)) = false := by decide) (hcd : (n == ("__classdict__" : Str)) = false := by decide)
    (hs : swapsWith e2 (some (.Subscript (.Name n np) e p)) pos.line X.env = pure false := by rfl) :
    Sx G (rdS X (.Assign [.Subscript (.Name n np) e p] e2 pos)) cs P :=
  sx_of (ps_dput hu (pe_var hN hv hdb hcd) pe_rd pe_rd hs) fun F σ H E rl k1 _ _ _ _ => hd F σ H _ rl fun v F1 H1 st1 r1 q1 => by
    obtain ⟨ws, h1, h2, h3, h4⟩ := r1.dic hc
    refine ⟨.ref l, h1, hk F1 σ H1 _ r1 fun y F2 H2 st2 r2 q2 => ?_⟩
    obtain ⟨ws2, _, h6, h7, h8⟩ := r2.dic hc
    have ek := is_key q2
    subst ek
    have q1' := Is.mono st2.fsub _ q1
    have new := h8.put (k := k) q1'
    refine ⟨l, _, rfl, DPut.k h6 (by rw [h8.len]; exact Nat.lt_trans hl (by decide)), ?_⟩
    exact k1 _ σ F2 _ hp ((st1.trans st2).trans (Stp.put (d := .dic l (putKD kvs k d)) hc rfl rfl)) (r2.put (d := .dic l (putKD kvs k d)) hc rfl rfl ⟨_, rfl, new⟩)
/-- d[k] -/
theorem ev_dix (i : Nat) (hc : cs[i]? = some (.dic l kvs)) (hk : Ev G (rdE X e) cs (kD k) cs) (hd : valD kvs k = some d) (hu : X.A.units + 1 < cLine) (hN : X.N[i]? = some n) (hv : Vis X.env.scope n) (hs : NoSl e := by intro _ _; rfl) (hdb : (n == ("__debug__" : Str)) = false := by decide) (hcd : (n == ("__classdict__" : Str)) = false := by decide) :
    Ev G (rdE X (.Subscript (.Name n np) e pos)) cs d cs :=
  ev_of (pe_dget hu (pe_var hN hv hdb hcd) pe_rd hs) fun F σ H Q rl q => by
    obtain ⟨ws, h1, h2, h3, h4⟩ := rl.dic hc
    refine ⟨.ref l, h1, hk F σ H _ rl fun v F1 H1 st1 r1 q1 => ?_⟩
    obtain ⟨ws2, _, h6, h7, h8⟩ := r1.dic hc
    have ek := is_key q1
    subst ek
    rcases h8.get k with ⟨e1, _⟩ | ⟨d', v', e1, e2, e3⟩
    · rw [e1] at hd; cases hd
    · rw [e1] at hd
      cases hd
      exact ⟨l, v', rfl, by rw [← e2]; exact DGet.k h6, q _ F1 H1 st1 r1 e3⟩
end
section
variable {X : Cx} {G : Gx} {cs : List Cell} {d : D}
theorem ev_v (i : Nat) {n : Str} {pos : Pos} (h : cs[i]? = some (.val d)) (hN : X.N[i]? = some n := by rfl) (hv : Vis X.env.scope n := by first | exact .inl rfl | exact .inr (.inl rfl)) (hd : (n == ("__debug__" : Str)) = false := by decide) (hcd : (n == ("__classdict__" : Str)) = false := by decide) : Ev G (rdE X (.Name n pos)) cs d cs := ev_var i h hN hv hd hcd
end
end Fx

/-! Fx30: len(set(ints)), for over a text, a sign in a text, int(text). -/
namespace Fx
open PySem L2 PySem.Spec PyProof.Rows
/-- the different numbers of a list, in the order in which they are met -/
def ddI (ns : List Int) : List Int := firstMet (fun i => ns.getD i 0) ns.length
theorem fm_spec (ns : List Int) : ∀ i, i ≤ ns.length → (firstMet (fun i => ns.getD i 0) i).Nodup ∧ ∀ x, x ∈ firstMet (fun i => ns.getD i 0) i ↔ x ∈ ns.take i
  | 0, _ => by rw [firstMet_zero]; simp
  | i + 1, h => by
    obtain ⟨h1, h2⟩ := fm_spec ns i (by omega)
    have ht : ns.take (i + 1) = ns.take i ++ [ns.getD i 0] := by
      rw [List.take_add_one, List.getElem?_eq_getElem (show i < ns.length by omega), List.getD_eq_getElem?_getD, List.getElem?_eq_getElem (show i < ns.length by omega)]
      rfl
    rw [firstMet_succ, ht]
    unfold step_dedup
    split
    · rename_i hc
      refine ⟨h1, fun x => ?_⟩
      have hm : ns.getD i 0 ∈ ns.take i := (h2 _).mp (by simpa using hc)
      rw [h2, List.mem_append, List.mem_singleton]
      exact ⟨.inl, fun h => h.elim id fun e => e ▸ hm⟩
    · rename_i hc
      have hn : ns.getD i 0 ∉ firstMet (fun i => ns.getD i 0) i := by simpa using hc
      refine ⟨List.nodup_append.mpr ⟨h1, by simp, fun a ha b hb => ?_⟩, fun x => ?_⟩
      · rw [List.mem_singleton.mp hb]; exact fun e => hn (e ▸ ha)
      · rw [List.mem_append, List.mem_append, h2]
theorem ddI_nodup (ns : List Int) : (ddI ns).Nodup := (fm_spec ns ns.length (Nat.le_refl _)).1
theorem ddI_mem {ns : List Int} {x : Int} : x ∈ ddI ns ↔ x ∈ ns := by
  have := (fm_spec ns ns.length (Nat.le_refl _)).2 x
  rwa [List.take_length] at this
theorem ddI_len (ns : List Int) : (ddI ns).length ≤ ns.length := firstMet_length_le _ _
section
variable {X : Cx} {G : Gx} {e : Expr} {pos p p2 q2 : Pos} {cs cs1 : List Cell}
def tLenSetA (K : PySem.W.Frag) (ta : TE) : TE := fun σ H Q => ta σ H fun x H1 => ∃ (l : Addr) (ns : List Int), x = .ref l ∧ SqL K H1 l (ns.map V.int) ∧ ns.length ≤ 4000 ∧ Q (.int ((ddI ns).length : Nat)) H1
theorem pe_lenSetA {a : Expr} {ta : TE} {q : Pos} (hg : Gl X "len") (hm : X.mg "len" = none) (hg2 : Gl X "set") (hm2 : X.mg "set" = none) (ha : PE X a ta) (hc : X.calm = true := by rfl)
    (na : starEach [a] X.env = (false, eval a X.env) :: starEach [] X.env := by rfl) : PE X (.Call (.Name "len" p) [.Call (.Name "set" p2) [a] [] q] [] pos) (tLenSetA X.K ta) := by
  refine ⟨fun pins s σ H Q I h => ?_⟩
  refine Call_ (ld_blt I hg hm boot_len ?_)
  refine PyProof.Rows.callWith_builtin1 (PyProof.Rows.args_cons ?_ rfl) rfl rfl
  refine Call_ (ld_blt I hg2 hm2 boot_set ?_)
  refine PyProof.Rows.callWith_type1 (PyProof.Rows.args_cons (thn (ha.run pins s σ H _ I h) fun v s1 ⟨x, H1, I1, r1, q1⟩ => PyProof.Rows.args_nil ?_) na) na rfl
  obtain ⟨l, ns, rfl, hq, hl, q1⟩ := q1
  cases r1
  obtain ⟨its, r, pl, hz⟩ := I1.list hq
  have hlen : its.toArray.size = ns.length := by rw [List.size_toArray, ← r.length, List.length_map]
  refine call_set_list (I1.ok.hd hc) pl.isList (by simpa using RZ.intsAre_vals r) (by rw [hlen]; unfold scanBound; omega) fun h' tk hS hk => ?_
  refine PyProof.Rows.args_nil ?_
  rw [hlen] at hS
  have hdl := ddI_len ns
  unfold ddI at hdl q1
  obtain ⟨o, es, ep, t, ho, hex, hd, _, _, _, hf, hn⟩ := hS
  have I2 : Inv X pins σ H1 { s1 with heap := h', toks := tk } := I1.kept fun b o e => hk b o (Heap.lt_size e) e
  exact call_len_set ho hex hd hf (by rw [hn] <;> omega) ⟨.int _, H1, I2.tok _, ⟨_, by rw [hn]⟩, q1⟩
theorem ev_lenSet {ns : List Int} {q : Pos} (ha : Ev G (rdE X e) cs (.lst (ns.map .int)) cs1) (hz : ns.length ≤ 4000) (hm : X.mg "len" = none) (hg : Gl X "len") (hm2 : X.mg "set" = none) (hg2 : Gl X "set") (hc : X.calm = true := by rfl)
    (hs : starEach [e] X.env = (false, eval e X.env) :: starEach [] X.env := by rfl) : Ev G (rdE X (.Call (.Name "len" p) [.Call (.Name "set" p2) [e] [] q] [] pos)) cs (.int ((ddI ns).length : Nat)) cs1 :=
  ev_of (pe_lenSetA hg hm hg2 hm2 pe_rd hc hs) fun F σ H Q rl k => ha F σ H _ rl fun v F1 H1 st1 r1 q1 => by
    obtain ⟨a, vs, rfl, h1, h2⟩ := q1
    rw [ints_vals h2] at h1
    exact ⟨a, ns, rfl, SqL.of (r1.sub _ _ h1), hz, k _ F1 H1 st1 r1 rfl⟩
/-! the signs of a text -/
def sgn (c : Nat) : Str := ⟨#[c]⟩
def sgns (x : Str) : List D := x.cps.toList.map fun c => D.str (sgn c)
theorem itd_str {F : Hp} {x : Str} : ItD G (Its x) F (sgns x) := fun F1 H1 s1 s2 => by
  refine ⟨fun i d ei => ?_, ?_⟩
  · unfold sgns at ei
    rw [List.getElem?_map] at ei
    cases z : x.cps.toList[i]? with
    | none => rw [z] at ei; cases ei
    | some c =>
      rw [z] at ei
      cases ei
      have z2 : x.cps[i]? = some c := by rw [← Array.getElem?_toList]; exact z
      refine ⟨(Array.getElem?_eq_some_iff.mp z2).1, fun v H2 ⟨eH, c2, y, ev⟩ => ?_⟩
      subst eH
      rw [z2] at y
      cases y
      exact ⟨F1, .refl s2, ev⟩
  · show x.cps.size ≤ (sgns x).length
    unfold sgns
    rw [List.length_map, Array.length_toList]
    exact Nat.le_refl _
theorem ei_str {x : Str} {tg iter : Expr} (h : Ev G (rdE X iter) cs (.str x) cs1) : EvI G (rdI X tg iter) cs (sgns x) cs1 := ei_of (pi_str pe_rd) fun F σ H R rl q => h F σ H _ rl fun v F1 H1 st1 r1 q1 => ⟨x, q1, q _ F1 H1 st1 r1 itd_str⟩
theorem c_sgn {c : Nat} {z : Str} : CmpJ G X .In (.str (sgn c)) (.str z) (decide (c ∈ z.cps.toList)) := ⟨_, op_in_sign, fun F H v w Q sm h1 h2 q => ⟨c, z, h1, h2, q _ F H (.refl sm) rfl⟩⟩
theorem ev_intS {a : Str} {n : Int} (ha : Ev G (rdE X e) cs (.str a) cs1) (hn : PySem.intText? a = some n) (hz : a.length ≤ 640) (hm : X.mg "int" = none) (hg : Gl X "int") (hs : starEach [e] X.env = (false, eval e X.env) :: starEach [] X.env := by rfl) :
    Ev G (rdE X (.Call (.Name "int" p) [e] [] pos)) cs (.int n) cs1 :=
  ev_callTy call_int_str (fun F H vs Q sm h q => by
    obtain ⟨v, r, rfl, h1, h2⟩ := h
    cases h1
    cases h2
    exact ⟨a, n, rfl, hn, hz, q _ F H (.refl sm) rfl⟩) (evv_cons ha evv_nil hs) hg hm (by decide +kernel) (by decide) (by decide) hs (by rfl)
end
/-! x <= y <= z as a test -/
section
variable {X : Cx} {G : Gx} {a b c : Expr} {pos : Pos} {cs cs1 cs2 : List Cell} {x y w : D} {k k1 : Bool} {r r' : R2}
theorem ev_tChain (hr : OpD G r x y (.bl k)) (hr' : k = true → OpD G r' y w (.bl k1)) (ha : Ev G (rdE X a) cs x cs1) (hb : Ev G (rdE X b) cs1 y cs2) (hc : k = true → Ev G (rdE X c) cs2 w cs2) :
    Ev G (tChain r r' (rdE X a) (rdE X b) (rdE X c)) cs (.bl (k && k1)) cs2 :=
  fun F σ H Q rl q => ha F σ H _ rl fun v F1 H1 st1 r1 q1 => hb F1 σ H1 _ r1 fun w1 F2 H2 st2 r2 q2 => hr F2 H2 v w1 _ r2.sub (Is.mono st2.fsub x q1) q2 fun u F3 H3 g q3 => by
    have r3 := r2.grow g
    refine ⟨k, q3, ?_⟩
    cases k with
    | true =>
      exact iteT (hc rfl F3 σ H3 _ r3 fun w2 F4 H4 st4 r4 q4 => hr' rfl F4 H4 w1 w2 Q r4.sub (Is.mono (g.fsub.trans st4.fsub) y q2) q4 fun u F5 H5 g5 q5 => q u F5 H5 (((st1.trans st2).trans g.stp).trans (st4.trans g5.stp)) (r4.grow g5) q5)
    | false => exact iteF (q _ F3 H3 ((st1.trans st2).trans g.stp) r3 rfl)
theorem et_cc {op op' : CmpOp} (q : CmpJ G X op x y k) (q2 : CmpJ G X op' y w k1) (ha : Ev G (rdE X a) cs x cs1) (hb : Ev G (rdE X b) cs1 y cs2) (hc : Ev G (rdE X c) cs2 w cs2)
    (hpt : ∀ {r r' : R2} {t1 t2 t3 : TE}, OpR X (compareOp op) r → OpR X (compareOp op') r' → PE X a t1 → PE X b t2 → PE X c t3 → PT X (.Compare a [op, op'] [b, c] pos) (tTest (tChain r r' t1 t2 t3))) : EvT G (rdT X (.Compare a [op, op'] [b, c] pos)) cs (k && k1) cs2 := by
  obtain ⟨r, h1, h2⟩ := q
  obtain ⟨r', h3, h4⟩ := q2
  exact evt_of (hpt h1 h3 pe_rd pe_rd pe_rd) (et_tTest (ev_tChain h2 (fun _ => h4) ha hb fun _ => hc))
end
/-! a property whose getter computes -/
section
variable (G : Gx) (P : Program) (w : World) (mg : Str → Option Value) (base : Heap) (c k : Nat)
def PkGet (f : Str) (C : List D → Out → Prop) : Prop := ∃ pa ga fd, PropOf G.K (G.cls c) f pa ga ∧ FnOk P w G.K mg base CX0 k ga fd ["self"] (sp0 G C) ∧ Binds G.K fd ["self"] []
end
section
variable {X : Cx} {G : Gx} {e : Expr} {pos : Pos} {cs cs1 : List Cell} {z : D} {ds : List D} {c j k : Nat}
theorem ev_getP {f : Str} {C : List D → Out → Prop} (Pk : PkGet G X.prog X.w X.mg X.base c k f C) (he : Ev G (rdE X e) cs (.obj c ds) cs1) (cl : Cls G.K (G.cls c)) (hr : Room j X.A) (hk : k + 1 ≤ j) (hC : C [.obj c ds] (.val z)) (hK : G.K = X.K := by rfl) (hx : Passes CX0 X.nox E0 := by exact pass0) (hab : attributeBase e f X.env (eval e X.env) = eval e X.env := by rfl) : Ev G (rdE X (.Attribute e f pos)) cs z cs1 := by
  obtain ⟨pa, ga, fd, h1, h2, h3⟩ := Pk
  rw [hK] at h1 h2 h3 cl
  exact ev_of (pe_prop pe_rd cl h1 h2 (hr.mono hk) h3 .nil hx hab) fun F σ H Q rl q => he F σ H _ rl fun v F1 H1 st1 r1 q1 => by
    have q1' := q1
    obtain ⟨a, dx, fs, rfl, g1, g2, g3⟩ := q1
    exact ⟨a, dx, fs, rfl, r1.sub _ _ g1, F1, [.obj c ds], .val z, r1.sub, ⟨_, [], rfl, q1', rfl⟩, hC, fun v F3 H3 g q3 => q v F3 H3 (st1.trans g.stp) (r1.grow g) q3⟩
end
end Fx

/-! Fx31: items of lists of ours (any value), displays told by a property, list * n, ours + list. -/
namespace Fx
open PySem L2
section
variable {X : Cx} {G : Gx} {e a b : Expr} {es : List Expr} {np pos : Pos} {nm : Str} {cs cs1 cs2 : List Cell} {z : D} {ds es' xs ys : List D} {l : Addr}
/-- xs[i], xs ours, the item any value -/
theorem ev_ixO (p : Nat) {i : Int} {m : Nat} (h0 : cs[p]? = some (.own l es')) (hb : Ev G (rdE X b) cs (.int i) cs1) (hi : cs1[p]? = some (.own l ds)) (hm : ixN ds.length i = some m) (hz : ds[m]? = some z) (hN : X.N[p]? = some nm) (hv : Vis X.env.scope nm) (hs : PlainIx b := by exact fun _ _ => rfl) (hd : (nm == ("__debug__" : Str)) = false := by decide) (hcd : (nm == ("__classdict__" : Str)) = false := by decide) :
    Ev G (rdE X (.Subscript (.Name nm np) b pos)) cs z cs1 :=
  ev_of (pe_ix ix_list (pe_var hN hv hd hcd) pe_rd hs) fun F σ H Q rl q => by
    obtain ⟨vs0, e0, _⟩ := rl.own h0
    refine ⟨_, e0, hb F σ H _ rl fun v F1 H1 st1 r1 q1 => ?_⟩
    obtain ⟨vs, e1, h1, h2, h3⟩ := r1.own hi
    cases q1
    obtain ⟨u, eu, qu⟩ := h3.get hz
    exact ⟨l, vs, i, u, rfl, rfl, SqL.of h1, by rw [atI_get (j := m) (by rw [h3.length]; exact hm)]; exact eu, q u F1 H1 st1 r1 qu⟩
/-- [x, ..] told by a property -/
theorem evnr_lst {R RN : List D → List Cell → Prop} (h : EvVR G (rdA X es) cs R) (hz : ∀ ds c, R ds c → ds.length ≤ 1000 ∧ RN ds c) : EvNR G (rdE X (.List es pos)) cs RN :=
  evnr_of (pe_lst pa_rd) fun F σ H Q rl q => h F σ H _ rl fun ds c vs F1 H1 hR st1 r1 q1 => ⟨by
    rw [q1.length]
    exact Nat.le_trans (hz ds c hR).1 (by decide), fun p hp => evn_new st1 rl r1 (fun p vs F' H' st r h0 h1 h2 h3 h4 => q ds c p vs F' H' (hz ds c hR).2 st r h0 h1 h2 h3 h4) p vs hp q1⟩
theorem IsAll.replicate {F : Hp} {us : List V} (h : IsAll G F xs us) : ∀ n : Nat, IsAll G F (List.replicate n xs).flatten (List.replicate n us).flatten
  | 0 => rfl
  | n + 1 => by
    rw [List.replicate_succ, List.replicate_succ, List.flatten_cons, List.flatten_cons]
    exact h.append (IsAll.replicate h n)
/-- xs * n -/
theorem evn_rep {n : Nat} (ha : Ev G (rdE X a) cs (.lst xs) cs1) (hb : Ev G (rdE X b) cs1 (.int (n : Int)) cs2) (hn : n ≤ 1000) (hz : xs.length ≤ 1000) : EvN G (rdE X (.BinOp a .Mult b pos)) cs (List.replicate n xs).flatten cs2 :=
  evn_of (pe_op op_rep pe_rd pe_rd) fun F σ H Q rl q => ha F σ H _ rl fun v F1 H1 st1 r1 q1 => hb F1 σ H1 _ r1 fun v2 F2 H2 st2 r2 q2 => by
    obtain ⟨p1, u1, rfl, g1, g2⟩ := q1
    cases q2
    have hl : u1.length * n ≤ 1000 * 1000 := Nat.mul_le_mul (by rw [g2.length]; exact hz) hn
    refine ⟨p1, (n : Int), u1, rfl, rfl, r2.sub _ _ (st2.fsub _ _ g1), by omega, by omega, by rw [Int.toNat_natCast, sizeLine_eq]; omega, fun p hp => ?_⟩
    rw [Int.toNat_natCast]
    exact evn_new (st1.trans st2) rl r2 q p _ hp (IsAll.replicate (IsAll.mono st2.fsub xs g2) n)
/-- ours + list -/
theorem evn_addO (p : Nat) (h0 : cs[p]? = some (.own l es')) (hb : Ev G (rdE X b) cs (.lst ys) cs1) (hi : cs1[p]? = some (.own l ds)) (hz : ds.length + ys.length ≤ 10000000) (hN : X.N[p]? = some nm) (hv : Vis X.env.scope nm) (hd : (nm == ("__debug__" : Str)) = false := by decide) (hcd : (nm == ("__classdict__" : Str)) = false := by decide) :
    EvN G (rdE X (.BinOp (.Name nm np) .Add b pos)) cs (ds ++ ys) cs1 :=
  evn_of (pe_op op_cat (pe_var hN hv hd hcd) pe_rd) fun F σ H Q rl q => by
    obtain ⟨vs0, e0, _⟩ := rl.own h0
    refine ⟨_, e0, hb F σ H _ rl fun v F1 H1 st1 r1 q1 => ?_⟩
    obtain ⟨vs, e1, h1, h2, h3⟩ := r1.own hi
    obtain ⟨p2, u2, rfl, g3, g4⟩ := q1
    exact ⟨l, p2, vs, u2, rfl, rfl, h1, r1.sub _ _ g3, by rw [h3.length, g4.length, sizeLine_eq]; omega, fun p hp => evn_new st1 rl r1 q p _ hp (h3.append g4)⟩
end
/-! a call of a def with a list that it changes, the other arguments told by a property -/
section
variable {X : Cx} {G : Gx} {e : Expr} {es : List Expr} {np pos : Pos} {n : Str} {cs : List Cell} {l : Addr} {j k : Nat} {R : List D → List Cell → Prop} {R' : D → List Cell → Prop}
theorem evr_fn1R {C : List D → List D → Prop} {R1 : List D → List D → D → List D → Prop} (i : Nat) (Fn : Fn1R G X.prog X.w X.mg X.base k n C R1) (hr : Room j X.A) (hk : k ≤ j) (ha : EvPR G (rdA X (e :: es)) cs l R) (hC : ∀ ds c, R ds c → ∃ qs, c[i]? = some (.own l qs) ∧ C qs ds ∧ ∀ d qs', R1 qs ds d qs' → R' d (c.set i (.own l qs'))) (hg : Gl X n) (hK : G.K = X.K := by rfl) (hd : (n == ("__debug__" : Str)) = false := by decide)
    (he : starEach (e :: es) X.env = (false, eval e X.env) :: starEach es X.env := by rfl) (hpl : (backTo pos (starEach es X.env)).any (·.1) = false := by rfl) : EvR G (rdE X (.Call (.Name n np) (e :: es) [] pos)) cs R' := by
  obtain ⟨f, hm, kp, F⟩ := Fn
  rw [hK] at kp F
  refine evr_of (pe_callR F (hr.mono hk) kp hg hm pass0 pa_rd hd he hpl) fun F σ H Q rl q => ha F σ H _ rl fun ds c vs F1 H1 hR st1 r1 q1 => ?_
  obtain ⟨qs, hi, hc, hf⟩ := hC ds c hR
  obtain ⟨pv, _, a1, a2, a3⟩ := r1.own hi
  refine ⟨F1, l, pv, vs, qs, ds, r1.sub, rfl, a1, a2, a3, q1, hc, fun d qs' hR1 v F2 H2 pv' st2 s2 h1 h2 h3 h4 => ?_⟩
  obtain ⟨r2, s3⟩ := pen_back r1 hi st2 s2 h1 h2 h3
  exact q d _ v F2 H2 (hf d qs' hR1) (st1.trans s3) r2 h4
end
end Fx

/-! FxE: exceptions of the text's own classes: raise, calls that may raise, try .. except. W is what is wished of an exception. -/
namespace Fx
open PySem L2
/-- what an exception meets: its class by number -/
def GoesX (G : Gx) (F H : Hp) (O : Addr → Prop) (S : Nat → List Cell → Prop) (W : WX) : Prop := ∀ c cs' σ' F' H', S c cs' → Stp F H O F' H' (Owns cs') → Rel G F' σ' H' cs' → W (.ref (G.cls c)) none σ' H'
theorem GoesX.after {G : Gx} {F H F' H' : Hp} {O O' : Addr → Prop} {S : Nat → List Cell → Prop} {W : WX} (g : GoesX G F H O S W) (s : Stp F H O F' H' O') : GoesX G F' H' O' S W := fun c cs' σ' F2 H2 hp st r => g c cs' σ' F2 H2 hp (s.trans st) r
/-- an expression that may raise -/
def EvX (G : Gx) (W : WX) (te : TE) (cs : List Cell) (R : D → List Cell → Prop) (S : Nat → List Cell → Prop) : Prop := ∀ (F : Hp) (σ : L2.St) (H : Hp) (Q : VK), Rel G F σ H cs →
  (∀ d cs' v F' H', R d cs' → Stp F H (Owns cs) F' H' (Owns cs') → Rel G F' σ H' cs' → Is G F' d v → Q v H') → GoesX G F H (Owns cs) S W → te σ H Q
/-- a statement that may raise -/
def SxX (G : Gx) (W : WX) (ts : TS) (cs : List Cell) (P : Post) (S : Nat → List Cell → Prop) : Prop := ∀ (F : Hp) (σ : L2.St) (H : Hp) (E : Ends), Rel G F σ H cs →
  Goes G F H (Owns cs) P.nx E.nx → GoesV G F H (Owns cs) P.rt E.rt → GoesN G F H (Owns cs) P.rn E.rt → Goes G F H (Owns cs) P.bk E.bk → Goes G F H (Owns cs) P.ct E.ct → GoesX G F H (Owns cs) S W → ts E σ H
section
variable {X : Cx} {G : Gx} {W : WX} {e a b c tg iter : Expr} {es : List Expr} {st : Stmt} {sts body : List Stmt} {pos : Pos} {cs cs' cs1 cs2 cs3 : List Cell} {d x y z : D} {ds : List D} {k : Bool} {l : Addr} {P : Post} {S : Nat → List Cell → Prop} {R : D → List Cell → Prop}
theorem xs_of {ts : TS} (h : PS X st ts) (q : SxX G W ts cs P S) : SxX G W (rdS X st) cs P S := fun F σ H D r k1 k2 k3 k4 k5 k6 pins s I => h.run pins s σ H D I (q F σ H D r k1 k2 k3 k4 k5 k6)
theorem xss_of {ts : TS} (h : PSs X sts ts) (q : SxX G W ts cs P S) : SxX G W (rdSs X sts) cs P S := fun F σ H D r k1 k2 k3 k4 k5 k6 pins s I => h.run pins s σ H D I (q F σ H D r k1 k2 k3 k4 k5 k6)
theorem ex_of {te : TE} (h : PE X e te) (q : EvX G W te cs R S) : EvX G W (rdE X e) cs R S := fun F σ H Q r k k6 pins s I => h.run pins s σ H Q I (q F σ H Q r k k6)
theorem xs_sx {ts : TS} (h : Sx G ts cs P) : SxX G W ts cs P S := fun F σ H E rl k1 k2 k3 k4 k5 _ => h F σ H E rl k1 k2 k3 k4 k5
theorem xs_nil (h : P.nx cs) : SxX G W (rdSs X []) cs P S := xs_sx (sx_nil h)
theorem xs_cons (h : SxX G W (rdS X st) cs { P with nx := fun cs' => SxX G W (rdSs X sts) cs' P S } S) : SxX G W (rdSs X (st :: sts)) cs P S :=
  xss_of (pss_cons ps_rd pss_rd) fun F σ H E rl k1 k2 k3 k4 k5 k6 => h F σ H { E with nx := rdSs X sts E } rl (fun cs' σ' F' H' hp st r => hp F' σ' H' E r (k1.after st) (k2.after st) (k3.after st) (k4.after st) (k5.after st) (k6.after st)) k2 k3 k4 k5 k6
theorem xs_one (h : SxX G W (rdS X st) cs P S) : SxX G W (rdSs X [st]) cs P S := xss_of (pss_one ps_rd) h
theorem xs_if {s1 s2 : List Stmt} (h : EvT G (rdT X c) cs k cs1) (h1 : k = true → SxX G W (rdSs X s1) cs1 P S) (h2 : k = false → SxX G W (rdSs X s2) cs1 P S) : SxX G W (rdS X (.If c s1 s2 pos)) cs P S :=
  xs_of (ps_if pt_rd pss_rd pss_rd) fun F σ H E rl k1 k2 k3 k4 k5 k6 => h F σ H _ rl fun F1 H1 st r1 => by
    cases k with
    | true => exact iteT (h1 rfl F1 σ H1 E r1 (k1.after st) (k2.after st) (k3.after st) (k4.after st) (k5.after st) (k6.after st))
    | false => exact iteF (h2 rfl F1 σ H1 E r1 (k1.after st) (k2.after st) (k3.after st) (k4.after st) (k5.after st) (k6.after st))
theorem xs_frz {ts : TS} (i : Nat) (h : cs[i]? = some (.own l ds)) (q : SxX G W ts (cs.set i (.val (.lst ds))) P S) : SxX G W ts cs P S := fun F σ H E rl k1 k2 k3 k4 k5 k6 => by
  obtain ⟨vs, _, h1, _, _⟩ := rl.own h
  obtain ⟨r', st⟩ := rl.freeze h h1
  exact q _ σ H E r' (k1.after st) (k2.after st) (k3.after st) (k4.after st) (k5.after st) (k6.after st)
/-- what comes behind a statement, told apart from it -/
theorem xs_cut (K : List Cell → Prop) (h : SxX G W (rdS X st) cs { P with nx := K } S) (k : ∀ cs', K cs' → SxX G W (rdSs X sts) cs' P S) : SxX G W (rdSs X (st :: sts)) cs P S :=
  xs_cons fun F σ H E rl k1 k2 k3 k4 k5 k6 => h F σ H E rl (fun cs' σ' F' H' hp => k1 cs' σ' F' H' (k cs' hp)) k2 k3 k4 k5 k6
theorem xs_for {its : List D} (hi : EvI G (rdI X tg iter) cs its cs1) (I : Nat → List Cell → Prop) (h0 : I 0 cs1)
    (hs : ∀ (i : Nat) d cs2, its[i]? = some d → I i cs2 → ∃ cs3 tl, EvG G (rdG X tg) tl d cs2 cs3 ∧ SxX G W (rdSs X body) cs3 { nx := I (i + 1), ct := I (i + 1), bk := P.nx, rt := P.rt, rn := P.rn } S) (hd : ∀ cs2, I its.length cs2 → P.nx cs2)
    (hc : X.calm = true) (hp : PassesOwn (model X.prog X.w) X.A X.env X.xe) (hf : ∀ x, foldedSetIterable iter X.env x = pure x := by intro _; rfl) : SxX G W (rdS X (.For tg iter body [] pos)) cs P S :=
  xs_of (ps_for hp hc pi_rd pg_rd pss_rd hf) fun F σ H E rl k1 k2 k3 k4 k5 k6 => hi F σ H _ rl fun J F1 H1 st1 r1 it => by
    refine ⟨fun i m σ2 H2 => m = its.length - i ∧ i ≤ its.length ∧ ∃ cs2 F2, I i cs2 ∧ Rel G F2 σ2 H2 cs2 ∧ Stp F1 H1 (Owns cs1) F2 H2 (Owns cs2), ⟨its.length, by simp, Nat.zero_le _, cs1, F1, h0, r1, .refl⟩, ?_⟩
    rintro i m σ2 H2 ⟨rfl, hi2, cs2, F2, i2, r2, st2⟩
    obtain ⟨hgo, hstop⟩ := it F2 H2 st2.fsub r2.sub
    by_cases hlt : i < its.length
    · obtain ⟨go, yl⟩ := hgo i its[i] (List.getElem?_eq_getElem hlt)
      refine .inr ⟨go, fun σ' H' => ∃ cs4 F4, I (i + 1) cs4 ∧ Rel G F4 σ' H' cs4 ∧ Stp F1 H1 (Owns cs1) F4 H' (Owns cs4), fun σ' H' q => ⟨its.length - (i + 1), by omega, rfl, hlt, q⟩, fun x H3 y => ?_⟩
      obtain ⟨F3, g, q3⟩ := yl x H3 y
      obtain ⟨cs3, tl, hg, hb⟩ := hs i its[i] cs2 (List.getElem?_eq_getElem hlt) i2
      refine hg F3 σ2 H3 x _ (r2.grow g) q3 fun σ3 st3 r3 _ => ?_
      have sa := (st2.trans g.stp).trans st3
      have sb := st1.trans sa
      exact hb F3 σ3 H3 _ r3 (fun cs4 σ4 F4 H4 i4 s4 r4 => ⟨cs4, F4, i4, r4, sa.trans s4⟩) (k2.after sb) (k3.after sb) (k1.after sb) (fun cs4 σ4 F4 H4 i4 s4 r4 => ⟨cs4, F4, i4, r4, sa.trans s4⟩) (k6.after sb)
    · have e : i = its.length := by omega
      subst e
      exact .inl ⟨hstop, k1 cs2 σ2 F2 H2 (hd cs2 i2) (st1.trans st2) r2⟩
/-! expressions that may raise, as statements -/
theorem ex_ev {te : TE} (h : Ev G te cs d cs1) (hR : R d cs1) : EvX G W te cs R S := fun F σ H Q rl q _ => h F σ H Q rl fun v F' H' st r i => q d cs1 v F' H' hR st r i
theorem xs_expr (h : EvX G W (rdE X e) cs R S) (hp : ∀ d cs1, R d cs1 → P.nx cs1) (hs : swapsWith e none pos.line X.env = pure false := by rfl) : SxX G W (rdS X (.Expr e pos)) cs P S :=
  xs_of (ps_expr pe_rd hs) fun F σ H E rl k1 _ _ _ _ k6 => h F σ H _ rl (fun d cs1 v F1 H1 hR st1 r1 _ => k1 cs1 σ F1 H1 (hp d cs1 hR) st1 r1) k6
theorem xs_set (i : Nat) {n : Str} {np : Pos} (h : EvX G W (rdE X e) cs R S) (hp : ∀ d cs1, R d cs1 → P.nx (cs1.set i (.val d))) (hN : X.N.Nodup) (hi : X.N[i]? = some n) (hx : Loc X.env.scope n) (hf : X.fn n = true ∨ X.env.scope.names.lookup n = some .local) (hs : swapsWith e (some (.Name n np)) pos.line X.env = pure false := by rfl) :
    SxX G W (rdS X (.Assign [.Name n np] e pos)) cs P S :=
  xs_of (ps_set (i := i) hN hi hx pe_rd hs hf) fun F σ H E rl k1 _ _ _ _ k6 => h F σ H _ rl (fun d cs1 v F1 H1 hR st1 r1 q1 => k1 _ _ F1 H1 (hp d cs1 hR) (st1.trans (Rel.stp_val i d)) (r1.setVal q1)) k6
theorem xs_ret (h : EvX G W (rdE X e) cs R S) (hp : ∀ d cs1, R d cs1 → P.rt d cs1) : SxX G W (rdS X (.Return (some e) pos)) cs P S :=
  xs_of (ps_ret pe_rd) fun F σ H E rl _ k2 _ _ _ k6 => h F σ H _ rl (fun d cs1 v F1 H1 hR st1 r1 q1 => k2 d cs1 σ F1 H1 v (hp d cs1 hR) st1 r1 q1) k6
end
/-! ### the classes of exceptions -/
abbrev veM : List Value := [.type "ValueError", .type "Exception", .type "BaseException", .type "object"]
/-- what is known of a class of the text that is below ValueError -/
structure XC (G : Gx) (mg : Str → Option Value) (c : Nat) (x : Str) : Prop where
  nm : mg x = some (.ref (G.cls c))
  ex : PySem.W.excIn G.K (G.cls c) veM "ValueError.__new__" = true
  kp : PySem.W.keepIn G.K (.ref (G.cls c)) = true
  sb : PySem.W.subIn G.K (.ref (G.cls c)) (.type "BaseException") = some true
  ty : PySem.W.typeIn G.K (.ref (G.cls c)) = some (.type "type")
section
variable {X : Cx} {G : Gx} {W : WX} {cs : List Cell} {P : Post} {S : Nat → List Cell → Prop} {c : Nat} {x m : Str} {j : Nat} {p p2 pos pos' : Pos}
theorem xs_raise (hX : XC G X.mg c x) (tk : Takes X W) (hS : S c cs) (hc : X.calm = true) (hg : Gl X x) (hK : G.K = X.K := by rfl) (hdb : (x == ("__debug__" : Str)) = false := by decide) : SxX G W (rdS X (.Raise (some (.Call (.Name x p) [.Constant (.str m) j p2] [] pos)) none pos')) cs P S := by
  obtain ⟨h1, h2, h3, h4, h5⟩ := hX
  rw [hK] at h2 h3 h4 h5
  exact xs_of (ps_raise hc tk (pmk_own PySem.F.excBase_ValueError h2 h1 h3 (raises_own h4 h5) hg hdb)) fun F σ H E rl _ _ _ _ _ k6 => k6 c cs σ F H hS .refl rl
end
/-! ### defs that may raise -/
def RetX (G : Gx) (F H : Hp) (o : Out ⊕ Nat) (Q : VK) (E : XK) : Prop := match o with
  | .inl o => Ret G F H o Q
  | .inr c => ∀ F' H', Grow F H F' H' → E (.ref (G.cls c)) none H'
def spX (G : Gx) (C : List D → Out ⊕ Nat → Prop) : Sp := fun vs H Q E => ∃ F ds o, Same F H ∧ IsAll G F ds vs ∧ C ds o ∧ RetX G F H o Q E
def postX (o : Out ⊕ Nat) : Post := match o with
  | .inl o => post0 o
  | .inr _ => { nx := fun _ => False }
abbrev cxX (P : Program) (w : World) (K : PySem.W.Frag) (mg : Str → Option Value) (base : Heap) (N : List Str) (qual : Str) (st : Stmt) (f : Addr) (cdv : Value) (A : Around) (outer : List Env) (s : Shared) (H : Hp) (E : XK) : Cx := cxOf (L2.CX P w) P w K mg base N qual (defScope st) f cdv A outer s H E
section
variable {P : Program} {w : World} {G : Gx} {mg : Str → Option Value} {base : Heap} {x qual : Str} {st : Stmt} {f : Addr} {fd : FuncData} {N ps : List Str} {k : Nat}
theorem takesX {cdv : Value} {A : Around} {outer : List Env} {s : Shared} {H : Hp} {E : XK} : Takes (cxX P w G.K mg base N qual st f cdv A outer s H E) (fun cls d _ H => E cls d H) := takes_of rfl rfl rfl rfl
theorem passX {cdv : Value} {A : Around} {outer : List Env} {s : Shared} {H : Hp} {E : XK} : PassesOwn (model P w) (cxX P w G.K mg base N qual st f cdv A outer s H E).A (cxX P w G.K mg base N qual st f cdv A outer s H E).env (cxX P w G.K mg base N qual st f cdv A outer s H E).xe := passes_of (X := cxX P w G.K mg base N qual st f cdv A outer s H E) rfl
theorem fnOkX {C : List D → Out ⊕ Nat → Prop} (F : L2.Fun G.K x qual st f fd) (S : FnScope N ps (defScope st)) (hl : ∀ ds o, C ds o → ds.length = ps.length) (hN : ps.length ≤ N.length)
    (body : ∀ cdv A outer s H E, Room k (cxX P w G.K mg base N qual st f cdv A outer s H E).A → ∀ ds o, C ds o → SxX G (fun cls d _ H => E cls d H) (rdSs (cxX P w G.K mg base N qual st f cdv A outer s H E) (defBody st)) (vals ds ++ nos (N.length - ps.length)) (postX o) fun c _ => o = .inr c) :
    FnOk P w G.K mg base (L2.CX P w) (k + 1) f fd ps (spX G C) := by
  have hlen : ∀ vs H Q E, spX G C vs H Q E → vs.length = ps.length := fun vs H Q E ⟨F, ds, o, _, h, c, _⟩ => h.length.trans (hl ds o c)
  refine F.okX S hlen fun cdv A outer s H vs Q E hr hsp => ?_
  obtain ⟨F0, ds, o, sm, h, c, ret⟩ := hsp
  refine ⟨_, pss_rd, ?_⟩
  have hdl := hl ds o c
  have rl := rel_start (N := N) sm h (by omega)
  rw [hdl] at rl
  have no : ∀ a, ¬ Owns (vals ds ++ nos (N.length - ps.length)) a := fun a => owns_start
  refine body cdv A outer s H E hr ds o c F0 _ H _ rl ?_ ?_ ?_ (fun cs' σ' F' H' hp => ?_) (fun cs' σ' F' H' hp => ?_) (fun c cs' σ' F' H' hp st r => ?_)
  · intro cs' σ' F' H' hp st r
    rcases o with (o | c)
    · cases o with
      | val d =>
        have e : d = .non := hp
        subst e
        exact ret .non F' H' (grow_of st no r.sub) rfl
      | new es => exact False.elim hp
    · exact False.elim hp
  · intro d cs' σ' F' H' v hp st r q
    rcases o with (o | c)
    · cases o with
      | val d' =>
        have e : d = d' := hp
        subst e
        exact ret v F' H' (grow_of st no r.sub) q
      | new es => exact False.elim hp
    · exact False.elim hp
  · intro es cs' σ' F' H' p vs' hp st r q0 q1 q2 q3 q4
    rcases o with (o | c)
    · cases o with
      | val d' => exact False.elim hp
      | new es' =>
        have e : es = es' := hp
        subst e
        exact ret p vs' F' H' (grow_of st no r.sub) (q0.elim id fun z => absurd z (no p)) q2 q3 q4
    · exact False.elim hp
  · rcases o with (o | c)
    · cases o <;> exact False.elim hp
    · exact False.elim hp
  · rcases o with (o | c)
    · cases o <;> exact False.elim hp
    · exact False.elim hp
  · subst hp
    exact ret F' H' (grow_of st no r.sub)
theorem fnX {C : List D → Out ⊕ Nat → Prop} (F : L2.Fun G.K x qual st f fd) (S : FnScope N ps (defScope st)) (hb : Binds G.K fd ps []) (hl : ∀ ds o, C ds o → ds.length = ps.length) (hN : ps.length ≤ N.length)
    (body : ∀ cdv A outer s H E, Room k (cxX P w G.K mg base N qual st f cdv A outer s H E).A → ∀ ds o, C ds o → SxX G (fun cls d _ H => E cls d H) (rdSs (cxX P w G.K mg base N qual st f cdv A outer s H E) (defBody st)) (vals ds ++ nos (N.length - ps.length)) (postX o) fun c _ => o = .inr c) :
    FnR P w G.K mg base (L2.CX P w) (k + 1) f (spX G C) := by
  have := (fnOkX F S hl hN body).raw hb (dvs := []) .nil
  intro A outer s H us vs Q E hr e0 r hsp
  exact this A outer s H us vs Q E hr e0 r (by show _; simpa using hsp)
end
def FnX (G : Gx) (P : Program) (w : World) (mg : Str → Option Value) (base : Heap) (k : Nat) (n : Str) (C : List D → Out ⊕ Nat → Prop) : Prop := ∃ f, mg n = some (.ref f) ∧ PySem.W.keepIn G.K (.ref f) = true ∧ FnR P w G.K mg base (L2.CX P w) k f (spX G C)
/-- what a call comes to -/
def OutR (R : D → List Cell → Prop) (S : Nat → List Cell → Prop) (cs : List Cell) : Out ⊕ Nat → Prop
  | .inl (.val d) => R d cs
  | .inl (.new ds) => R (.lst ds) cs
  | .inr c => S c cs
section
variable {X : Cx} {G : Gx} {W : WX} {e : Expr} {es : List Expr} {np pos : Pos} {n : Str} {cs cs1 : List Cell} {ds : List D} {j k : Nat} {R : D → List Cell → Prop} {S : Nat → List Cell → Prop} {o : Out ⊕ Nat}
theorem run_W {f : Addr} {sp : Sp} {pins : List (Addr × Obj)} {σ : L2.St} {H : Hp} {s : Shared} {Q : VK} {us : List Value} {vs : List V} (F : FnR X.prog X.w X.K X.mg X.base (L2.CX X.prog X.w) k f sp) (hr : Room k X.A) (tk : Takes X W) (I : Inv X pins σ H s) (r : Vals vs us) (h : sp vs H Q (WE W σ)) :
    wpAny (model X.prog X.w) X.A (call (.ref f) us) (EP X pins σ Q) X.xe s := by
  refine wpAny_call (codeAny_mono (F X.A X.stack s H us vs Q (WE W σ) hr I.env0 r h) fun r s' hq => ?_)
  cases r with
  | error e => exact passAt tk σ pins H s e s' I hq
  | ok fl =>
    cases fl with
    | ret u => exact I.after hq
    | next => exact False.elim hq
    | brk => exact False.elim hq
    | cont => exact False.elim hq
theorem pe_callW {f : Addr} {sp : Sp} {t : TA} (F : FnR X.prog X.w X.K X.mg X.base (L2.CX X.prog X.w) k f sp) (hr : Room k X.A) (tk : Takes X W) (hk : PySem.W.keepIn X.K (.ref f) = true) (hg : Gl X n) (hm : X.mg n = some (.ref f)) (ha : PA X (e :: es) t) (hd : (n == ("__debug__" : Str)) = false := by decide)
    (he : starEach (e :: es) X.env = (false, eval e X.env) :: starEach es X.env := by rfl) (hpl : (backTo pos (starEach es X.env)).any (·.1) = false := by rfl) :
    PE X (.Call (.Name n np) (e :: es) [] pos) (fun σ H Q => t σ H fun vs H1 => sp vs H1 Q (WE W σ)) := by
  refine ⟨fun pins s σ H Q I h => ?_⟩
  refine wpAny_Call_Name_kw (ld_glob I hg hm ?_ hd)
  refine PySem.W.callWith_K (h₀ := X.base) I.ok.mod.kin hk (thn (ha.run pos pins s σ H _ I h) fun us s1 ⟨vs, H1, I1, r, q⟩ => ⟨I1.kIn, ?_⟩) he hpl
  exact run_W F hr tk I1 r q
/-- behind the arguments: a promise that may raise -/
theorem end_X {F H F1 H1 : Hp} {σ : L2.St} {Q : VK} {vs : List V} {C : List D → Out ⊕ Nat → Prop} (st1 : Stp F H (Owns cs) F1 H1 (Owns cs1)) (rl : Rel G F σ H cs) (r1 : Rel G F1 σ H1 cs1) (q1 : IsAll G F1 ds vs) (hC : C ds o) (ho : OutR R S cs1 o)
    (q : ∀ d cs' v F' H', R d cs' → Stp F H (Owns cs) F' H' (Owns cs') → Rel G F' σ H' cs' → Is G F' d v → Q v H') (k6 : GoesX G F H (Owns cs) S W) : spX G C vs H1 Q (WE W σ) := by
  refine ⟨F1, ds, o, r1.sub, q1, hC, ?_⟩
  rcases o with (o | c)
  · cases o with
    | val d => exact fun v F2 H2 g q2 => q d cs1 v F2 H2 ho (st1.trans g.stp) (r1.grow g) q2
    | new es =>
      intro p vs F2 H2 g h0 h1 h2 h3
      have r2 := r1.grow g
      have no : ¬ Owns cs1 p := r1.notOwns h0
      have up : Same F2 (upd F2 p (.lst vs)) := fun a o e => by rw [upd_ne (ne_of_none e h2)]; exact e
      refine q (.lst es) cs1 (.ref p) (upd F2 p (.lst vs)) H2 ho ⟨(st1.trans g.stp).fsub.trans up, (st1.trans g.stp).frame, fun a o e => ?_, (st1.trans g.stp).own, (st1.trans g.stp).back⟩ ⟨fun a o e => ?_, r2.len, fun i c e => ?_, r2.inj⟩ ⟨p, vs, rfl, upd_same, IsAll.mono up es h3⟩
      · by_cases z : a = p
        · rw [z]; exact .inr (.inl (st1.back p h0))
        · rw [upd_ne z] at e; exact (st1.trans g.stp).fresh a o e
      · by_cases z : a = p
        · rw [z, upd_same] at e; cases e; rw [z]; exact h1
        · rw [upd_ne z] at e; exact r2.sub a o e
      · obtain ⟨o, e1, q1⟩ := r2.cel i c e
        refine ⟨o, e1, q1.mono up fun l' u ho a1 a2 => ⟨a1, ?_⟩⟩
        have : l' ≠ p := fun z => no (by rw [← z]; exact ⟨i, c, e, ho⟩)
        rw [upd_ne this]
        exact a2
  · exact fun F2 H2 g => k6 c cs1 σ F2 H2 ho (st1.trans g.stp) (r1.grow g)
theorem ex_fn {C : List D → Out ⊕ Nat → Prop} (Fn : FnX G X.prog X.w X.mg X.base k n C) (tk : Takes X W) (hr : Room j X.A) (hk : k ≤ j) (ha : EvV G (rdA X (e :: es)) cs ds cs1) (hC : C ds o) (ho : OutR R S cs1 o) (hg : Gl X n) (hK : G.K = X.K := by rfl) (hd : (n == ("__debug__" : Str)) = false := by decide)
    (he : starEach (e :: es) X.env = (false, eval e X.env) :: starEach es X.env := by rfl) (hpl : (backTo pos (starEach es X.env)).any (·.1) = false := by rfl) : EvX G W (rdE X (.Call (.Name n np) (e :: es) [] pos)) cs R S := by
  obtain ⟨f, hm, kp, F⟩ := Fn
  rw [hK] at kp F
  exact ex_of (pe_callW F (hr.mono hk) tk kp hg hm pa_rd hd he hpl) fun F σ H Q rl q k6 => ha F σ H _ rl fun vs F1 H1 st1 r1 q1 => end_X st1 rl r1 q1 hC ho q k6
end
end Fx

/-! Fx32: len of an instance, a call with no arguments. -/
namespace Fx
open PySem L2
section
variable {X : Cx} {G : Gx} {e : Expr} {np pos : Pos} {n : Str} {cs cs1 : List Cell} {ds : List D} {z : D} {c j k : Nat}
theorem cr_lenI {C g : Addr} {sp : Sp} (hs : PySem.W.findIn X.K (.ref C) "__len__" = some (some (.ref g))) (hf : PySem.W.isFn X.K (.ref g) = true) (F : FnR X.prog X.w X.K X.mg X.base CX0 k g sp) (hr : Room (k + 1) X.A) :
    CallR X (.builtin "len") (fun xs H Q => ∃ a, xs = [V.ref a] ∧ StX.InsC X H a C ∧ sp [.ref a] H (fun v H' => ∃ i : Int, v = .int i ∧ 0 ≤ i ∧ i < 2 ^ 63 ∧ Q v H') E0) := by
  intro pins s σ H xs us Q I r h
  obtain ⟨a, rfl, hi, q⟩ := h
  obtain ⟨u, rfl, ru⟩ := r.one
  cases (show u = Value.ref a from ru)
  obtain ⟨ox, od, J, _⟩ := StX.insC_at I hi
  obtain ⟨m, hF⟩ := I.fr
  have hr2 : Room k X.A.in1 := Room.in1 hr
  refine PySem.W.len_K hF I.ok.mod.kin J hs hf (wpAny_mono (wpAny_call (SlX.run_at (us := [.ref a]) (ws := [.ref a]) F hr2 I.env0.in1 pass0 I (.cons rfl .nil) q)) (fun w s' z => ?_) fun _ _ x => x)
  obtain ⟨z', H', I', rz, i, ei, h0, h1, qz⟩ := z
  subst ei
  obtain ⟨t, e⟩ := (show ∃ t, w = Value.int i t from rz)
  cases e
  exact ⟨⟨h0, h1⟩, .int i, H', I'.tok _, ⟨_, rfl⟩, qz⟩
def PkLen (G : Gx) (P : Program) (w : World) (mg : Str → Option Value) (base : Heap) (c k : Nat) (C : List D → Out → Prop) : Prop := ∃ g, PySem.W.findIn G.K (.ref (G.cls c)) "__len__" = some (some (.ref g)) ∧ PySem.W.isFn G.K (.ref g) = true ∧ FnR P w G.K mg base CX0 k g (sp0 G C)
theorem ev_lenI {C : List D → Out → Prop} {lp : Pos} {i : Int} (Pk : PkLen G X.prog X.w X.mg X.base c k C) (he : Ev G (rdE X e) cs (.obj c ds) cs1) (hr : Room j X.A) (hk : k + 1 ≤ j) (hC : C [.obj c ds] (.val (.int i))) (h0 : 0 ≤ i) (h1 : i < 2 ^ 63) (hm : X.mg "len" = none) (hg : Gl X "len") (hK : G.K = X.K := by rfl) (hs : starEach [e] X.env = (false, eval e X.env) :: starEach [] X.env := by rfl) (hpl : (backTo pos (starEach [] X.env)).any (·.1) = false := by rfl) :
    Ev G (rdE X (.Call (.Name "len" lp) [e] [] pos)) cs (.int i) cs1 := by
  obtain ⟨g, hs1, hf, F⟩ := Pk
  rw [hK] at hs1 hf F
  exact ev_of (pe_callB (cr_lenI hs1 hf F (hr.mono hk)) hg hm PySem.boot_len (pa_cons pe_rd pa_nil hs) (by decide) (by decide) hs hpl) fun F σ H Q rl q => he F σ H _ rl fun v F1 H1 st1 r1 q1 => by
    have q1' := q1
    obtain ⟨a, dx, fs, rfl, a1, a2, a3⟩ := q1
    exact ⟨a, rfl, .inr ⟨dx, fs, r1.sub _ _ a1⟩, F1, [.obj c ds], .val (.int i), r1.sub, ⟨_, [], rfl, q1', rfl⟩, hC, fun v F2 H2 g q2 => by
      cases q2
      exact ⟨i, rfl, h0, h1, q _ F2 H2 (st1.trans g.stp) (r1.grow g) rfl⟩⟩
/-- f() -/
def Fn00 (G : Gx) (P : Program) (w : World) (mg : Str → Option Value) (base : Heap) (k : Nat) (n : Str) (C : List D → Out → Prop) : Prop := ∃ f fd, mg n = some (.ref f) ∧ PySem.W.keepIn G.K (.ref f) = true ∧ FnOk P w G.K mg base CX0 k f fd [] (sp0 G C) ∧ Binds G.K fd [] []
theorem ev_fn00 {C : List D → Out → Prop} (Fn : Fn00 G X.prog X.w X.mg X.base k n C) (hr : Room j X.A) (hk : k ≤ j) (hC : C [] (.val z)) (hg : Gl X n) (hK : G.K = X.K := by rfl) (hd : (n == ("__debug__" : Str)) = false := by decide) : Ev G (rdE X (.Call (.Name n np) [] [] pos)) cs z cs := by
  obtain ⟨f, fd, hm, kp, F, hb⟩ := Fn
  rw [hK] at kp F hb
  exact ev_of (pe_call0 (E := E0) F (hr.mono hk) hg hm kp hb .nil pass0 hd) fun F σ H Q rl q => ⟨F, [], .val z, rl.sub, rfl, hC, fun v F2 H2 g q2 => q v F2 H2 g.stp (rl.grow g) q2⟩
end
end Fx

/-! list(zip(tuple, tuple)). -/
namespace Fx
open PySem L2 RZ PySem.Spec PyProof.Rows
theorem zip_no_len : typeLookup (.type "zip") "__len__" = pure none := by rw [typeLookup_type, builtinLookup_eq_fast]; kernel_rfl
theorem zip_no_hint : typeLookup (.type "zip") "__length_hint__" = pure none := by rw [typeLookup_type, builtinLookup_eq_fast]; kernel_rfl
abbrev IsLs (h : Heap) (S : Addr) (xs : Array Value) (c : Nat) : Prop := h.get? S = some { cls := .type "list", dict := none, data := .seq xs c, slots := #[] }
section
variable {prog : Program} {w : World} {A : Around} {s : Shared} {R : Result → Shared → Prop}
theorem extend_zip {z TI TO S : Addr} {f0 res : Value} {f1 : Bool} {c₀ : Nat} (hz : ZipB s.heap z TI TO f0 f1) (hSz : S ≠ z) (hS : IsLs s.heap S #[] c₀)
    (hl : ∀ h' c, (∀ b o, b ≠ S → s.heap.get? b = some o → h'.get? b = some o) → IsLs h' S #[] c → codeAny (model prog w) A (.builtin "list.extend.loop" ⟨[.ref S, .ref z, res], []⟩) R { s with heap := h' }) :
    wpAny (model prog w) A.in1 (Builtin.List.listExtendWith (.ref S) (.ref z) res)
      (fun fin s' => match fin with | .done f => R (.ok f) s' | .again c' => c'.quiet = true ∧ codeAny (model prog w) A c' R s') (fun e s' => R (.error e) s') s := by
  have hT : s.TypeIs (.ref z) "zip" := ⟨_, hz, rfl⟩
  unfold Builtin.List.listExtendWith
  refine wpAny_bind (wpAny_typeOf hT ?_)
  have h1 : Builtin.List.listSameRef (.ref S) (.ref z) = false := by simp [Builtin.List.listSameRef, hSz]
  have h2 : (Value.type "zip" == Value.type "list") = false := by decide
  have h3 : (Value.type "zip" == Value.type "tuple") = false := by decide
  simp only [h1, h2, h3, Bool.or_false, Bool.false_eq_true, if_false]
  refine wpAny_bind (iter_zipB hz ?_)
  refine wpAny_bind (wpAny_holding ?_)
  unfold Builtin.List.listLengthHint
  refine wpAny_bind (wpAny_specialOf hT zip_no_len ?_)
  show wpAny _ A.in1 (specialOf (Value.ref z) (Str.ofString "__length_hint__") >>= _) _ _ _
  refine wpAny_bind (wpAny_specialOf hT zip_no_hint ?_)
  refine wpAny_pure ?_
  show wpAny _ A.in1 (rule "list.extend.makes-room" >>= fun _ => Builtin.List.listTouch (.ref S) >>= fun _ =>
    again (.builtin "list.extend.loop" ⟨[.ref S, .ref z, res], []⟩)) _ _ _
  refine wpAny_bind (wpAny_rule ?_)
  refine wpAny_bind ?_
  show wpAny _ A.in1 (updateSeq S (·.push .none) >>= fun _ => updateSeq S (·.pop)) _ _ _
  refine wpAny_bind (wpAny_updateSeq hS rfl ?_)
  have hS₂ := Heap.get?_update_self (Obj.mapSeq (·.push Value.none)) hS rfl
  refine wpAny_updateSeq (hz := by seq_fits) hS₂ rfl ?_
  have hS₃ := Heap.get?_update_self (Obj.mapSeq (·.pop)) hS₂ rfl
  have oth : ∀ b o, b ≠ S → s.heap.get? b = some o → ((s.heap.update S (Obj.mapSeq (·.push Value.none))).update S (Obj.mapSeq (·.pop))).get? b = some o :=
    fun b o hb e => (Heap.get?_update_other _ _ (Ne.symm hb)).trans ((Heap.get?_update_other _ _ (Ne.symm hb)).trans e)
  exact wpAny_pure ⟨plainId_quiet PySem.F.plain_extend_loop _, hl _ _ oth hS₃⟩
end
section
variable {prog : Program} {w : World} {A : Around} {s : Shared} {E : Value → Shared → Prop}
theorem call_list_zip {z TI TO : Addr} {f0 : Value} {f1 : Bool} {Q : Value → Shared → Prop} (hz : ZipB s.heap z TI TO f0 f1)
    (hl : ∀ h' c, (∀ b o, s.heap.get? b = some o → h'.get? b = some o) → IsLs h' s.heap.objs.size #[] c →
      codeAny (model prog w) A.in1 (.builtin "list.extend.loop" ⟨[.ref s.heap.objs.size, .ref z, .none], []⟩) (wants (fun r s₂ => r = .none ∧ Q (.ref s.heap.objs.size) s₂) E) { s with heap := h' }) :
    wpAny (model prog w) A (call (.type "list") [.ref z]) Q E s := by
  have hSz : s.heap.objs.size ≠ z := Nat.ne_of_gt (Heap.lt_size hz)
  refine callType_codes (Q₁ := fun obj s₁ => obj = .ref s.heap.objs.size ∧ s₁ = { s with heap := s.heap.push { cls := .type "list", data := .seq #[] } }) PySem.F.called_list (PySem.F.typeCall_list_1 _) PySem.F.entry_list_init
    (code_list_new _ ⟨rfl, rfl⟩) fun obj s₁ h₁ => ?_
  obtain ⟨rfl, rfl⟩ := h₁
  have hS : (s.heap.push { cls := .type "list", data := .seq #[] }).get? s.heap.objs.size = some { cls := .type "list", data := .seq #[] } := Heap.get?_push_size _ rfl
  refine ⟨⟨_, hS, rfl⟩, PySem.F.args_list_init_2 _ _, ?_⟩
  generalize hs1 : s.heap.push { cls := .type "list", data := .seq #[] } = h1 at hS ⊢
  have k1 : ∀ b o, s.heap.get? b = some o → h1.get? b = some o := fun b o e => by rw [← hs1]; exact Heap.get?_push_of_some _ e
  have hne : ∀ b o, s.heap.get? b = some o → b ≠ s.heap.objs.size := fun b o e => Nat.ne_of_lt (Heap.lt_size e)
  generalize s.heap.objs.size = S at hS hSz hl hne ⊢
  show wpAny _ A.in1.in1 (do let old ← Builtin.List.listItems (.ref S); Builtin.List.listUpdate (.ref S) (fun _ => #[]); letGo old.toList.reverse; Builtin.List.listExtendWith (.ref S) (.ref z) .none) _ _ { s with heap := h1 }
  refine wpAny_bind ?_
  unfold Builtin.List.listItems
  refine wpAny_bind (wpAny_seqItems hS rfl (wpAny_pure ?_))
  show wpAny _ A.in1.in1 (updateSeq S (fun _ => #[]) >>= fun _ => letGo (#[] : Array Value).toList.reverse >>= fun _ => Builtin.List.listExtendWith (.ref S) (.ref z) .none) _ _ { s with heap := h1 }
  refine wpAny_bind (wpAny_updateSeq hS rfl ?_)
  have hS₂ := Heap.get?_update_self (Obj.mapSeq (fun _ => (#[] : Array Value))) hS rfl
  have oth : ∀ b o, b ≠ S → h1.get? b = some o → (h1.update S (Obj.mapSeq (fun _ => (#[] : Array Value)))).get? b = some o :=
    fun b o hb e => (Heap.get?_update_other _ _ (Ne.symm hb)).trans e
  refine wpAny_bind (wpAny_letGo ?_)
  refine extend_zip (f0 := f0) (f1 := f1) (oth _ _ hSz.symm (k1 _ _ hz)) hSz hS₂ fun h' c hk hc => ?_
  exact codeAny_mono (hl h' c (fun b o e => hk b o (hne b o e) (oth b o (hne b o e) (k1 b o e))) hc) fun _ _ h => h
end
section
variable {X : Cx} {pins : List (Addr × Obj)} {σ : L2.St} {H : Hp} {s : Shared} {h' : Heap}
/-- an object of ours, not yet told, is told -/
theorem turnedAt {t' : Nat} {ch : List Addr} {T : Addr} {ob : HO} (I : Inv X pins σ H s) (k : ∀ b o, b ∉ ch → s.heap.get? b = some o → h'.get? b = some o) (hf : ∀ b ∈ ch, FpOk X pins H b) (hT : T ∈ ch)
    (new : ObjOk X.prog X.w (upd H T ob) h' T ob) : Inv X pins σ (upd H T ob) { s with heap := h', toks := t' } := by
  have hn : H T = none := (hf T hT).1
  have nit : ∀ b u, H b = some u → b ∉ ch := fun b u e z => by
    have q := (hf b z).1
    rw [q] at e; cases e
  refine I.step (g' := s.gens) (d' := s.drawn) (ch := ch) (fun b hb => ⟨(hf b hb).2.2.2.1, (hf b hb).2.1, (hf b hb).2.2.2.2.1, (hf b hb).2.2.2.2.2⟩) (fun b o _ _ hc e _ => k b o hc e) (fun b o _ _ hc e _ => ⟨o.slots, k b o hc e⟩)
    (fun b o hc e n => ?_) (fun b o hc e => ⟨o, k b o hc e⟩) (fun b xs e => ?_) (fun b o u e => ?_) (fun b ps e => ⟨#[], ?_⟩) (fun m hm => ?_) (fun b u e => ?_) I.bare
  · rw [upd_ne (fun z => hc (by rw [z]; exact hT))]; exact n
  · rw [upd_ne (ne_of_none e hn)]; exact e
  · rw [upd_ne (ne_of_none e hn)]; exact e
  · rw [upd_ne (ne_of_none e hn), e]; simp
  · obtain ⟨o, es, ep, ho, r⟩ := hm
    exact ⟨o, es, ep, k _ o (fun z => (hf _ z).2.1 rfl) ho, r⟩
  · by_cases hb : b = T
    · subst hb
      rw [upd_same] at e
      cases e
      exact new
    · rw [upd_ne hb] at e
      refine (I.hok b u e).stay (fun c v hc q => k c v ?_ q) (fun c q => by rw [upd_ne (ne_of_none q hn)]; exact q) fun c xs q => by rw [upd_ne (ne_of_none q hn)]; exact q
      rcases hc with z | z
      · rw [z]; exact nit b u e
      · exact nit c _ z
/-- new pairs, told of in the heap -/
structure Zg (H0 H : Hp) (us ws : List V) (ts : List Addr) : Prop where
  sub : Same H0 H
  new : ∀ t ∈ ts, H0 t = none
  frm : ∀ c u, H c = some u → H0 c = some u ∨ c ∈ ts
  tel : ∀ (j : Nat) (t : Addr), ts[j]? = some t → ∃ x y, us[j]? = some x ∧ ws[j]? = some y ∧ H t = some (.tup [x, y])
abbrev tnz (z TI TO i1 i2 a b : Addr) (i : Nat) (h : Heap) : Prop := (∃ f0 f1, Own0 f0 ∧ ZipB h z TI TO f0 f1) ∧ IsPair h TI (.ref i1) (.ref i2) ∧ (∃ x y, IsPair h TO x y) ∧ h.IsTupleIter i1 a i ∧ h.IsTupleIter i2 b i
theorem zl_loop {A : Around} {R : Result → Shared → Prop} {z TI TO i1 i2 a b S : Addr} (hh : A.handled = none) (D : ZipApart z TI TO i1 i2 a b) (hS : S ∉ [z, TI, TO, i1, i2]) (res : Value) {us ws : List V} {H0 : Hp} (n : Nat) (hnu : n ≤ us.length) (hnw : n ≤ ws.length) (hne : n = us.length ∨ n = ws.length) (hsz : n ≤ sizeLine)
    (hqa : SqT X.K H0 a us) (hqb : SqT X.K H0 b ws) :
    ∀ (k i : Nat) (s : Shared) (H : Hp) (c : Nat) (ts : List Addr), n - i = k → i ≤ n → Inv X pins σ H s → (∀ b ∈ [z, TI, TO, i1, i2, S], FpOk X pins H b) → tnz z TI TO i1 i2 a b i s.heap → ts.length = i → IsLs s.heap S (ts.map Value.ref).toArray c → Zg H0 H us ws ts →
    (∀ s' H' c' ts', Inv X pins σ H' s' → FpOk X pins H' S → ts'.length = n → IsLs s'.heap S (ts'.map Value.ref).toArray c' → Zg H0 H' us ws ts' → R (.ok (.ret res)) s') →
    codeAny (model X.prog X.w) A (.builtin "list.extend.loop" ⟨[.ref S, .ref z, res], []⟩) R s := by
  have sm : ∀ {H : Hp} {ts : List Addr}, Zg H0 H us ws ts → SqT X.K H a us ∧ SqT X.K H b ws := fun g => ⟨same_t g.sub hqa, same_t g.sub hqb⟩
  intro k
  induction k with
  | zero =>
    intro i s H c ts hk hi I hf st hlen hSl hg hR
    have hin : i = n := by omega
    subst hin
    refine codeAny_builtin PySem.F.entry_extend_loop ?_
    rw [Around.under_plainId PySem.F.plain_extend_loop _]
    show wpAny _ A.in1 (pyNext (.ref z) >>= _) _ _ s
    obtain ⟨⟨f0, f1, hf0, hz⟩, hTI, ⟨x0, y0, hTO⟩, h1, h2⟩ := st
    obtain ⟨qa, qb⟩ := sm hg
    obtain ⟨its, rv, p, _⟩ := I.tuple qa
    obtain ⟨its2, rv2, p2, _⟩ := I.tuple qb
    have l1 := rv.length
    have l2 := rv2.length
    have he : its.toArray[i]? = none ∨ its2.toArray[i]? = none := by
      rcases hne with q | q
      · exact .inl (by simp; omega)
      · exact .inr (by simp; omega)
    refine wpAny_bind (next_zipN_end (A := A.in1) hh D hf0 hz hTI hTO h1 h2 p p2 he fun h' hk => ?_)
    have nS : ∀ x, x ∈ [z, TI, TO, i1, i2] → S ≠ x := fun x hx e => hS (by rw [e]; exact hx)
    exact wpAny_pure (hR _ H c ts (I.turnedL (t' := s.toks) (ch := [z, TI, TO, i1, i2]) (fun c o hb q =>
      hk c o (fun q' => hb (by simp [q'])) (fun q' => hb (by simp [q'])) (fun q' => hb (by simp [q'])) (fun q' => hb (by simp [q'])) q) fun b hb => hf b (List.mem_append_left [S] hb)) (hf S (by simp)) hlen
      (hk S _ (nS _ (by simp)) (nS _ (by simp)) (nS _ (by simp)) (nS _ (by simp)) hSl) hg)
  | succ k ih =>
    intro i s H c ts hk hi I hf st hlen hSl hg hR
    have hlt : i < n := by omega
    refine codeAny_builtin PySem.F.entry_extend_loop ?_
    rw [Around.under_plainId PySem.F.plain_extend_loop _]
    show wpAny _ A.in1 (pyNext (.ref z) >>= _) _ _ s
    obtain ⟨⟨f0, f1, hf0, hz⟩, hTI, ⟨x0, y0, hTO⟩, h1, h2⟩ := st
    obtain ⟨qa, qb⟩ := sm hg
    obtain ⟨its, rv, p, _⟩ := I.tuple qa
    obtain ⟨its2, rv2, p2, _⟩ := I.tuple qb
    have hx : us[i]? = some (us[i]'(by omega)) := List.getElem?_eq_getElem _
    have hy : ws[i]? = some (ws[i]'(by omega)) := List.getElem?_eq_getElem _
    generalize us[i]'(by omega) = x at hx
    generalize ws[i]'(by omega) = y at hy
    obtain ⟨u, hu, ru⟩ := rv.get hx
    obtain ⟨u2, hu2, ru2⟩ := rv2.get hy
    have hzl : z < s.heap.objs.size := Heap.lt_size hz
    have hSlt : S < s.heap.objs.size := Heap.lt_size hSl
    have nS : ∀ x, x ∈ [z, TI, TO, i1, i2] → S ≠ x := fun x hx e => hS (by rw [e]; exact hx)
    refine wpAny_bind (next_zipN_item (A := A.in1) D hf0 hz hTI hTO h1 h2 p p2 (x := u) (y := u2) (by simpa using hu) (by simpa using hu2) fun h' f0' f1' a' b' hf' z' TO' h1' h2' hT hsz' hk => ?_)
    have hS' := hk S _ (nS _ (by simp)) (nS _ (by simp)) (nS _ (by simp)) (nS _ (by simp)) hSl
    generalize hN : s.heap.objs.size = T at hT hsz' hzl hSlt ⊢
    have hTn : H T = none := I.hok.fresh (Nat.le_of_eq hN)
    have new : ObjOk X.prog X.w (upd H T (.tup [x, y])) h' T (.tup [x, y]) :=
      ⟨by show 2 ≤ sizeLine; decide, [u, u2], .cons ru (.cons ru2 .nil), ⟨_, hT, rfl, _, rfl⟩⟩
    have I1 : Inv X pins σ (upd H T (.tup [x, y])) { s with heap := h' } :=
      I.turnedNew (t' := s.toks) (ch := [z, TI, TO, i1, i2]) (fun c o hb q => hk c o (fun q' => hb (by simp [q'])) (fun q' => hb (by simp [q'])) (fun q' => hb (by simp [q'])) (fun q' => hb (by simp [q'])) q) (fun b hb => hf b (List.mem_append_left [S] hb)) (Nat.le_of_eq hN) new
    have lt6 : ∀ c, c ∈ [z, TI, TO, i1, i2, S] → c < T := fun c hc => by
      rw [← hN]
      have e' : c = z ∨ c = TI ∨ c = TO ∨ c = i1 ∨ c = i2 ∨ c = S := by simpa using hc
      rcases e' with q | q | q | q | q | q
      · rw [q]; exact Heap.lt_size hz
      · rw [q]; exact Heap.lt_size hTI
      · rw [q]; exact Heap.lt_size hTO
      · rw [q]; obtain ⟨_, e1, _⟩ := h1; exact Heap.lt_size e1
      · rw [q]; obtain ⟨_, e2, _⟩ := h2; exact Heap.lt_size e2
      · rw [q]; exact Heap.lt_size hSl
    have hf1 : ∀ b ∈ [z, TI, TO, i1, i2, S], FpOk X pins (upd H T (.tup [x, y])) b := fun b hb => by
      have q := hf b hb
      exact ⟨by rw [upd_ne (Nat.ne_of_lt (lt6 b hb))]; exact q.1, q.2⟩
    show wpAny _ A.in1 (updateSeq S (·.push (.ref T)) >>= _) _ _ _
    refine wpAny_bind ?_
    have oth : ∀ b o, b ≠ S → h'.get? b = some o → (h'.update S (Obj.mapSeq (·.push (Value.ref T)))).get? b = some o := fun b o hb e => (Heap.get?_update_other _ _ (Ne.symm hb)).trans e
    have ea : ((ts ++ [T]).map Value.ref).toArray = (ts.map Value.ref).toArray.push (.ref T) := by simp
    obtain ⟨c', hS3⟩ : ∃ c', IsLs (h'.update S (Obj.mapSeq (·.push (Value.ref T)))) S ((ts.map Value.ref).toArray.push (.ref T)) c' := ⟨_, Heap.get?_update_self (Obj.mapSeq (·.push (Value.ref T))) hS' rfl⟩
    rw [← ea] at hS3
    refine wpAny_updateSeq hS' rfl (wpAny_pure ⟨plainId_quiet PySem.F.plain_extend_loop _, ih (i + 1) _ (upd H T (.tup [x, y])) c' (ts ++ [T]) (by omega) hlt
      (I1.turnedL (t' := s.toks) (ch := [S]) (fun b o hb e => oth b o (by simpa using hb) e) fun b hb => hf1 b (by rw [List.mem_singleton.mp hb]; simp)) hf1 ?_ (by simp [hlen]) hS3 ?_ hR⟩)
      (by simp [hlen]; omega) (by simp [hlen]; omega)
    · have nb : ∀ x, x ∈ [z, TI, TO, i1, i2] → x ≠ S := fun x hx e => hS (by rw [← e]; exact hx)
      exact ⟨⟨f0', f1', hf', oth _ _ (nb z (by simp)) z'⟩, oth _ _ (nb TI (by simp)) (hk _ _ D.TIz D.TITO D.TIi1 D.TIi2 hTI), ⟨a', b', oth _ _ (nb TO (by simp)) TO'⟩, h1'.at fun o e => oth _ o (nb i1 (by simp)) e, h2'.at fun o e => oth _ o (nb i2 (by simp)) e⟩
    · refine ⟨fun c o e => by rw [upd_ne (ne_of_none (hg.sub c o e) hTn)]; exact hg.sub c o e, fun t ht => ?_, fun c o e => ?_, fun j t hj => ?_⟩
      · rcases List.mem_append.mp ht with q | q
        · exact hg.new t q
        · rw [List.mem_singleton.mp q]; exact hg.sub.free hTn
      · by_cases q : c = T
        · exact .inr (by rw [q]; simp)
        · rw [upd_ne q] at e
          exact (hg.frm c o e).imp id fun h => List.mem_append_left _ h
      · rw [List.getElem?_append] at hj
        split at hj
        · obtain ⟨x', y', a1, a2, a3⟩ := hg.tel j t hj
          exact ⟨x', y', a1, a2, by rw [upd_ne (ne_of_none a3 hTn)]; exact a3⟩
        · rename_i hj2
          have e0 : j = i := by
            cases q : j - ts.length with
            | zero => omega
            | succ m => rw [q] at hj; simp at hj
          subst e0
          rw [hlen, Nat.sub_self] at hj
          cases hj
          exact ⟨x, y, hx, hy, upd_same⟩
end
/-- list(zip(e, e2)) -/
def tLz (K : PySem.W.Frag) (ta : TA) : TE := fun σ H Q => ta σ H fun vs H1 => ∃ a b us ws, vs = [.ref a, .ref b] ∧ SqT K H1 a us ∧ SqT K H1 b ws ∧
  ∀ S ts H2, H2 S = none → Zg H1 H2 us ws ts → ts.length = min us.length ws.length → Q (.ref S) (upd H2 S (.lst (ts.map V.ref)))
theorem vals_refZ : ∀ ts : List Addr, Vals (ts.map V.ref) (ts.map Value.ref)
  | [] => .nil
  | _ :: ts => .cons rfl (vals_refZ ts)
section
variable {X : Cx} {e e2 : Expr} {ta : TA} {lp zp pos pos2 : Pos}
theorem pe_listZip (hc : X.calm = true) (hgL : Gl X "list") (hmL : X.mg "list" = none) (hg : Gl X "zip") (hm : X.mg "zip" = none) (ha : PA X [e, e2] ta)
    (hs : starEach [e, e2] X.env = (false, eval e X.env) :: starEach [e2] X.env := by rfl) (hpl : (backTo pos (starEach [e2] X.env)).any (·.1) = false := by rfl)
    (na : starEach [Expr.Call (.Name "zip" zp) [e, e2] [] pos] X.env = (false, eval (Expr.Call (.Name "zip" zp) [e, e2] [] pos) X.env) :: starEach [] X.env := by rfl) :
    PE X (.Call (.Name "list" lp) [.Call (.Name "zip" zp) [e, e2] [] pos] [] pos2) (tLz X.K ta) := by
  refine ⟨fun pins s σ H Q I h => ?_⟩
  have inner : wpAny (model X.prog X.w) X.A (eval (Expr.Call (.Name "zip" zp) [e, e2] [] pos) X.env) (fun x s1 => ∃ z TI TO i1 i2 a b us ws H1, x = .ref z ∧ Inv X pins σ H1 s1 ∧ ZipApart z TI TO i1 i2 a b ∧ tnz z TI TO i1 i2 a b 0 s1.heap ∧
      (∀ c ∈ [z, TI, TO, i1, i2], FpOk X pins H1 c) ∧ SqT X.K H1 a us ∧ SqT X.K H1 b ws ∧ ∀ S ts H2, H2 S = none → Zg H1 H2 us ws ts → ts.length = min us.length ws.length → Q (.ref S) (upd H2 S (.lst (ts.map V.ref)))) X.xe s := by
    refine Call_ (ld_blt I hg hm PyProof.Rows.boot_zip (PyProof.Rows.callWith_type1 (thn (ha.run pos pins s σ H _ I h) fun us s1 ⟨vs, H1, I1, r1, q1⟩ => ?_) hs hpl))
    obtain ⟨a, b, xs, ys, ex, hqx, hqy, q⟩ := q1
    subst ex
    cases r1 with
    | cons r rr =>
      cases rr with
      | cons r' rr =>
        cases rr
        cases r
        cases r'
        have fresh5 : ∀ c, c ∈ [s1.heap.objs.size + 4, s1.heap.objs.size + 2, s1.heap.objs.size + 3, s1.heap.objs.size, s1.heap.objs.size + 1] → FpOk X pins H1 c := fun c hcm => by
          have hle : s1.heap.objs.size ≤ c := by
            have e' : c = s1.heap.objs.size + 4 ∨ c = s1.heap.objs.size + 2 ∨ c = s1.heap.objs.size + 3 ∨ c = s1.heap.objs.size ∨ c = s1.heap.objs.size + 1 := by simpa using hcm
            have go : ∀ m : Nat, m ≤ m + 4 ∧ m ≤ m + 2 ∧ m ≤ m + 3 ∧ m ≤ m + 1 := fun m => ⟨by omega, by omega, by omega, by omega⟩
            have g := go s1.heap.objs.size
            rcases e' with z | z | z | z | z
            · rw [z]; exact g.1
            · rw [z]; exact g.2.1
            · rw [z]; exact g.2.2.1
            · rw [z]; exact Nat.le_refl _
            · rw [z]; exact g.2.2.2
          exact I1.fpOk hle (I1.hok.fresh hle)
        obtain ⟨its, rv, p1, _⟩ := I1.tuple hqx
        obtain ⟨its2, rv2, p2, _⟩ := I1.tuple hqy
        obtain ⟨o1, ho1, _⟩ := id p1
        obtain ⟨o2, ho2, _⟩ := id p2
        refine call_zipT (show s1.heap.IsTuple a its.toArray from p1) (show s1.heap.IsTuple b its2.toArray from p2) fun h' hz hTI hTO h1 h2 hsz hk => ?_
        have I2 : Inv X pins σ H1 { s1 with heap := h' } := I1.kept (t' := s1.toks) hk
        exact ⟨_, _, _, _, _, a, b, xs, ys, H1, rfl, I2, PySem.W.ktu_apart s1.heap.objs.size a b (Heap.lt_size ho1) (Heap.lt_size ho2), ⟨⟨.none, false, .inl rfl, hz⟩, hTI, ⟨_, _, hTO⟩, h1, h2⟩, fresh5, hqx, hqy, q⟩
  refine Call_ (ld_blt I hgL hmL boot_list (PyProof.Rows.callWith_type1 (args_cons (thn inner fun x s1 ⟨z, TI, TO, i1, i2, a, b, us, ws, H1, ex, I1, D, st, hf, hqa, hqb, q⟩ => args_nil ?_) na) na))
  subst ex
  obtain ⟨⟨f0, f1, hf0, hz⟩, hTI, ⟨x0, y0, hTO⟩, h1, h2⟩ := id st
  obtain ⟨_, _, _, lu⟩ := I1.tuple hqa
  obtain ⟨_, _, _, lw⟩ := I1.tuple hqb
  refine call_list_zip hz fun h' c hk hl => ?_
  have I2 : Inv X pins σ H1 { s1 with heap := h' } := I1.kept (t' := s1.toks) hk
  have hSn : H1 s1.heap.objs.size = none := I1.hok.fresh (Nat.le_refl _)
  have hSf : FpOk X pins H1 s1.heap.objs.size := I1.fpOk (Nat.le_refl _) hSn
  have hSo : s1.heap.objs.size ∉ [z, TI, TO, i1, i2] := fun hm => by
    have e' : s1.heap.objs.size = z ∨ s1.heap.objs.size = TI ∨ s1.heap.objs.size = TO ∨ s1.heap.objs.size = i1 ∨ s1.heap.objs.size = i2 := by simpa using hm
    have no : ∀ {c : Addr} {o : Obj}, s1.heap.get? c = some o → s1.heap.objs.size ≠ c := fun e => Nat.ne_of_gt (Heap.lt_size e)
    obtain ⟨o1, e1, _⟩ := h1
    obtain ⟨o2, e2, _⟩ := h2
    rcases e' with q | q | q | q | q
    · exact no hz q
    · exact no hTI q
    · exact no hTO q
    · exact no e1 q
    · exact no e2 q
  have st2 : tnz z TI TO i1 i2 a b 0 h' := ⟨⟨f0, f1, hf0, hk _ _ hz⟩, hk _ _ hTI, ⟨x0, y0, hk _ _ hTO⟩, h1.at fun o e => hk _ o e, h2.at fun o e => hk _ o e⟩
  have hsz : min us.length ws.length ≤ sizeLine := by omega
  refine zl_loop (A := X.A.in1) (I1.ok.hd hc) D hSo .none (min us.length ws.length) (Nat.min_le_left _ _) (Nat.min_le_right _ _) (by omega) hsz hqa hqb
    _ 0 _ H1 c [] rfl (Nat.zero_le _) I2 (fun b hb => ?_) st2 rfl hl ⟨Same.refl _, fun t ht => (nomatch ht), fun c u e => .inl e, fun j t ht => (nomatch ht)⟩ fun s' H' c' ts' I' hfS hlen hls hg => ⟨rfl, ?_⟩
  · rcases List.mem_append.mp (show b ∈ [z, TI, TO, i1, i2] ++ [s1.heap.objs.size] from hb) with q | q
    · exact hf b q
    · rw [List.mem_singleton.mp q]; exact hSf
  · refine ⟨.ref s1.heap.objs.size, _, turnedAt (t' := s'.toks) (ch := [s1.heap.objs.size]) I' (fun b o _ e => e) (fun b hb => by rw [List.mem_singleton.mp hb]; exact hfS) (List.mem_singleton.mpr rfl) (show ObjOk X.prog X.w _ s'.heap _ (.lst (ts'.map V.ref)) from ⟨?_, _, c', vals_refZ ts', hls⟩), rfl, q _ ts' H' hfS.1 hg hlen⟩
    rw [List.length_map, hlen]; exact hsz
end
theorem isAll_zip {G : Gx} {F : Hp} : ∀ {xs ys : List D} {us ws : List V} {ts : List Addr}, IsAll G F xs us → IsAll G F ys ws → ts.length = min us.length ws.length →
    (∀ (j : Nat) (t : Addr), ts[j]? = some t → ∃ x y, us[j]? = some x ∧ ws[j]? = some y ∧ SqT G.K F t [x, y]) → IsAll G F (List.zipWith (fun x y => .tup [x, y]) xs ys) (ts.map V.ref) := by
  intro xs
  induction xs with
  | nil =>
    intro ys us ws ts h1 h2 hl ht
    cases h1
    have : ts = [] := List.eq_nil_of_length_eq_zero (by simpa using hl)
    subst this
    rfl
  | cons x xs ih =>
    intro ys us ws ts h1 h2 hl ht
    obtain ⟨u, ur, rfl, hu, hur⟩ := h1
    cases ys with
    | nil =>
      cases h2
      have : ts = [] := List.eq_nil_of_length_eq_zero (by simpa using hl)
      subst this
      rfl
    | cons y ys =>
      obtain ⟨w, wr, rfl, hw, hwr⟩ := h2
      cases ts with
      | nil => simp at hl
      | cons t ts =>
        obtain ⟨x', y', e1, e2, q⟩ := ht 0 t rfl
        cases e1; cases e2
        exact ⟨_, _, rfl, ⟨t, _, rfl, q, u, [w], rfl, hu, w, [], rfl, hw, rfl⟩, ih hur hwr (by simp only [List.length_cons] at hl; omega) fun j t hj => ht (j + 1) t hj⟩
section
variable {X : Cx} {G : Gx} {e e2 : Expr} {lp zp pos pos2 : Pos} {cs cs1 : List Cell}
theorem evn_listZip {xs ys : List D} (h : EvV G (rdA X [e, e2]) cs [.tup xs, .tup ys] cs1) (hc : X.calm = true) (hgL : Gl X "list") (hmL : X.mg "list" = none) (hg : Gl X "zip") (hm : X.mg "zip" = none) (hK : G.K = X.K := by rfl)
    (hs : starEach [e, e2] X.env = (false, eval e X.env) :: starEach [e2] X.env := by rfl) (hpl : (backTo pos (starEach [e2] X.env)).any (·.1) = false := by rfl)
    (na : starEach [Expr.Call (.Name "zip" zp) [e, e2] [] pos] X.env = (false, eval (Expr.Call (.Name "zip" zp) [e, e2] [] pos) X.env) :: starEach [] X.env := by rfl) :
    EvN G (rdE X (.Call (.Name "list" lp) [.Call (.Name "zip" zp) [e, e2] [] pos] [] pos2)) cs (List.zipWith (fun x y => .tup [x, y]) xs ys) cs1 :=
  evn_of (pe_listZip hc hgL hmL hg hm pa_rd hs hpl na) fun F σ H Q rl q => h F σ H _ rl fun vs F1 H1 st1 r1 q1 => by
    obtain ⟨v1, r, rfl, ⟨a, us, rfl, h1, h2⟩, v2, r', rfl, ⟨b, ws, rfl, h3, h4⟩, h5⟩ := q1
    cases h5
    refine ⟨a, b, us, ws, rfl, by rw [← hK]; exact same_t r1.sub h1, by rw [← hK]; exact same_t r1.sub h3, fun S ts H2 hS hg hlen => ?_⟩
    have g : Grow F1 H1 (fun c => if c ∈ ts then H2 c else F1 c) H2 := by
      refine ⟨fun c o e => ?_, hg.sub, fun c o e => ?_, fun c o e => ?_⟩
      · have hn : c ∉ ts := fun z => by have := hg.new c z; rw [r1.sub c o e] at this; cases this
        show (if c ∈ ts then H2 c else F1 c) = some o
        rw [if_neg hn]; exact e
      · by_cases z : c ∈ ts
        · simpa [z] using e
        · exact hg.sub c o (r1.sub c o (by simpa [z] using e))
      · by_cases z : c ∈ ts
        · exact .inr (hg.new c z)
        · exact .inl (by simpa [z] using e)
    refine evn_new (st1.trans g.stp) rl (r1.grow g) q S _ hS (isAll_zip (IsAll.mono g.fsub _ h2) (IsAll.mono g.fsub _ h4) hlen fun j t hj => ?_)
    obtain ⟨x, y, e1, e2, e3⟩ := hg.tel j t hj
    refine ⟨x, y, e1, e2, SqT.of ?_⟩
    have : t ∈ ts := List.mem_of_getElem? hj
    simpa [this] using e3
end
end Fx

/-! xs.extend(a tuple). -/
namespace Fx
open PySem L2 RZ PySem.Spec PyProof.Rows
theorem ext_tup (l : Addr) (items : Array Value) (n : Nat) (b : Addr) (items2 : Array Value) (n2 : Nat) (o : Obj) (hc : o.cls = .type "tuple") (hd : o.data = .seq items2 n2) (hs0 : ¬(!items.isEmpty && Builtin.List.listTooLong (items.size + items2.size)) = true) (hs1 : items.size ≤ sizeLine) (hs2 : items.size + items2.size ≤ sizeLine + 1) :
    Meets (Builtin.«list.extend» ⟨[.ref l, .ref b], []⟩) (fun _ R s => s.heap.get? l = some { cls := .type "list", dict := none, data := .seq items n, slots := #[] } ∧ s.heap.get? b = some o ∧ R (.ok (.ret Value.none)) { s with heap := s.heap.update l (Obj.mapSeq fun x => x ++ items2) }) :=
  .of_wp fun prog w A R s h => by
    obtain ⟨hl, hb, h⟩ := h
    show wpAny _ _ (Builtin.List.listExtendWith (.ref l) (.ref b) .none) _ _ s
    unfold Builtin.List.listExtendWith
    refine wpAny_bind (wpAny_typeOf ⟨o, hb, hc⟩ ?_)
    have h1 : (Builtin.List.listSameRef (.ref l) (.ref b) || Value.type "tuple" == Value.type "list" || Value.type "tuple" == Value.type "tuple") = true := by simp
    simp only [h1, if_true]
    refine wpAny_bind ?_
    unfold Builtin.List.listItems
    refine wpAny_bind (wpAny_seqItems hb hd (wpAny_pure ?_))
    refine wpAny_bind ?_
    refine wpAny_bind (wpAny_seqItems hl rfl (wpAny_pure ?_))
    simp only [hs0, if_false]
    show wpAny _ _ (updateSeq l (· ++ items2) >>= fun _ => ret Value.none) _ _ s
    refine wpAny_bind (wpAny_updateSeq hl rfl ?_ hs1 (by show (items ++ items2).size ≤ _; rw [Array.size_append]; exact hs2))
    exact wpAny_pure ⟨_, rfl, h⟩
section
variable {X : Cx}
def rExtT (K : PySem.W.Frag) : V → List V → Hp → VK → Prop := fun x vs H Q => ∃ l b xs zs, x = .ref l ∧ vs = [.ref b] ∧ H l = some (.lst xs) ∧ SqT K H b zs ∧ xs.length + zs.length ≤ sizeLine ∧ Q .non (upd H l (.lst (xs ++ zs)))
theorem mt_extT : MtM X "list.extend" (rExtT X.K) := by
  intro pins s σ H x vs v us Q I rx rv h
  obtain ⟨l, b, xs, zs, rfl, rfl, hH, hB, hz, q⟩ := h
  cases rx
  obtain ⟨u, rfl, ru⟩ := rv.one
  cases ru
  obtain ⟨z, its, n, r, hl, e⟩ := I.lstM hH
  obtain ⟨its2, r2, p2, z2⟩ := I.tuple hB
  have hl2 := r2.length
  obtain ⟨o, ho, hc, n2, hd⟩ := p2
  have hsz : its.toArray.size + its2.toArray.size ≤ sizeLine := by rw [List.size_toArray, List.size_toArray]; omega
  have hlong : ¬ (!its.toArray.isEmpty && Builtin.List.listTooLong (its.toArray.size + its2.toArray.size)) = true := by
    rw [notLongL hsz, Bool.and_false]
    exact Bool.false_ne_true
  refine call_meets PySem.F.slot_list_extend ⟨_, e, rfl⟩ PySem.F.entry_list_extend (PySem.F.args_list_extend_2 _ _)
    (ext_tup l its.toArray n b its2.toArray n2 o hc hd hlong (by rw [List.size_toArray]; omega) (by omega)) ⟨e, ho, ?_⟩
  refine ⟨.non, _, I.lset (its' := its ++ its2) hH e (by simp) (r.append r2) ?_, rfl, q⟩
  rw [List.length_append]
  omega
end
section
variable {X : Cx} {G : Gx} {P : Post} {e : Expr} {n : Str} {np ap pos : Pos} {cs cs1 : List Cell} {l : Addr} {ds es' : List D}
theorem sx_extT (i : Nat) {ys : List D} {spos : Pos} (h : cs[i]? = some (.own l ds)) (he : Ev G (rdE X e) cs (.tup ys) cs1) (h1 : cs1[i]? = some (.own l es')) (hz : es'.length + ys.length ≤ 1000000) (hp : P.nx (cs1.set i (.own l (es' ++ ys)))) (hN : X.N[i]? = some n) (hv : Vis X.env.scope n)
    (hpe : ∀ {to : TE} {t : TA}, PE X (.Name n np) to → PA X [e] t → PE X (.Call (.Attribute (.Name n np) "extend" ap) [e] [] pos) (tBM X.K "list" (rExtT X.K) to t)) (hK : G.K = X.K := by rfl) (hd : (n == ("__debug__" : Str)) = false := by decide) (hcd : (n == ("__classdict__" : Str)) = false := by decide)
    (hs : starEach [e] X.env = (false, eval e X.env) :: starEach [] X.env := by rfl) (hsw : swapsWith (.Call (.Attribute (.Name n np) "extend" ap) [e] [] pos) none spos.line X.env = pure false := by rfl) :
    Sx G (rdS X (.Expr (.Call (.Attribute (.Name n np) "extend" ap) [e] [] pos) spos)) cs P :=
  sx_of (ps_expr (hpe (pe_var hN hv hd hcd) (pa_cons pe_rd pa_nil hs)) hsw) fun F σ H E rl k1 _ _ _ _ => by
    obtain ⟨vs, e1, _, _, _, ty⟩ := own_meth (X := X) (id := "") (rr := fun _ _ _ _ => True) rl h
    refine ⟨.ref l, e1, ty, he F σ H _ rl fun v F1 H1 st1 r1 q1 => ?_⟩
    obtain ⟨b, us, rfl, q1, q2⟩ := q1
    obtain ⟨vs1, e2, h2, h3, h4⟩ := r1.own h1
    refine ⟨l, b, vs1, us, rfl, rfl, h2, by rw [← hK]; exact same_t r1.sub q1, ?_, ?_⟩
    · rw [h4.length, q2.length, sizeLine_eq]; omega
    · exact k1 _ σ F1 _ hp (st1.trans (Stp.write h1)) (r1.write h1 (h4.append q2))
end
end Fx

/-! == and != of two instances of one class, in and not in of an instance, by the class's own methods. -/
namespace Fx
open PySem L2 PyProof.Rows PySem.Calls
section
variable {prog : Program} {w : World} {A : Around} {E : Value → Shared → Prop} {s : Shared} {K : PySem.W.Frag} {x y C f : Addr} {ox oy : Obj} {od oe : Option Obj}
theorem ifBound_B {M : Model} {name : Str} {i : String} {args : List Value} {Q : Option Value → Shared → Prop} (X : K.In s.heap) (I : PySem.W.InstAt s.heap x ox C od) (hs : PySem.W.findIn K (.ref C) name = some (some (.builtin i))) (hb : ∀ self, bindSpecial (.builtin i) self = pure (.builtin i, [self]))
    (h : wpAny M A (call (.builtin i) (.ref x :: args)) (fun v => Q (some v)) E s) : wpAny M A (callSpecialIfBound? (.ref x) name args) Q E s := by
  simp only [callSpecialIfBound?, bindSpecialIfBound?]
  refine wpAny_holding (wpAny_bind (wpAny_bind (wpAny_bind (I.type.here ((PySem.W.looks_findIn X hs).here ?_)))))
  refine wpAny_bind (wpAny_askSetting (wpAny_ite ?_))
  have fin : wpAny M A (call (.builtin i) ([.ref x] ++ args) >>= fun v => pure (some v)) Q E s := wpAny_bind (wpAny_mono h (fun v s' h' => wpAny_pure h') fun _ _ h' => h')
  split
  · exact wpAny_bind (wpAny_of_eq (hb _) (wpAny_pure (by exact fin)))
  · exact wpAny_tryCatch (wpAny_bind (wpAny_of_eq (hb _) (wpAny_pure (by exact fin))))
theorem ne_own {Q : Fin → Shared → Prop} (X : K.In s.heap) (I : PySem.W.InstAt s.heap x ox C od) (hs : PySem.W.findIn K (.ref C) "__eq__" = some (some (.ref f))) (hf : PySem.W.isFn K (.ref f) = true) (hu : A.units < cLine)
    (hcall : wpAny (model prog w) A (call (.ref f) [.ref x, .ref y]) (fun v s' => ∃ b, v = .bool b ∧ Q (.done (.ret (.bool (!b)))) s') E s) :
    wpAny (model prog w) A (Builtin.«object.__ne__» ⟨[.ref x, .ref y], []⟩) Q E s := by
  obtain ⟨h, g, d, t, os⟩ := s
  unfold Builtin.«object.__ne__»
  repeat (first
    | with_reducible refine wpAny_cRoomFor hu ?_
    | (refine wpAny_bind (m := callSpecialIfBound? (.ref x) (Str.ofString "__eq__") [.ref y])
        (PySem.W.ifBound_K X I hs hf (wpAny_mono hcall (fun r s' hr => by
          obtain ⟨b, rfl, hq⟩ := hr
          repeat (first | exact hq | exact wpAny_pure hq | exact wpAny_truthy_bool hq | (refine wpAny_bind (m := truthy (.bool _)) (wpAny_truthy_bool ?_)) | wp_step)) fun _ _ e => e)))
    | wp_step)
theorem cmp_ne {Q : Value → Shared → Prop} (X : K.In s.heap) (I : PySem.W.InstAt s.heap x ox C od) (I2 : PySem.W.InstAt s.heap y oy C oe) (hn : PySem.W.findIn K (.ref C) "__ne__" = some (some (.builtin "object.__ne__"))) (hp : PySem.W.plainOver K C = true)
    (hs : PySem.W.findIn K (.ref C) "__eq__" = some (some (.ref f))) (hf : PySem.W.isFn K (.ref f) = true) (hu : A.units < cLine) (hu1 : A.in1.units < cLine)
    (hcall : wpAny (model prog w) A.in1 (call (.ref f) [.ref x, .ref y]) (fun v s' => ∃ b, v = .bool b ∧ Q (.bool (!b)) s') E s) :
    wpAny (model prog w) A (compareOp .NotEq (.ref x) (.ref y)) Q E s := by
  have FB := PySem.F.cmp_object
  obtain ⟨cd, hc, ho⟩ := PySem.W.any_some hp
  have ne : cd.mro.isEmpty = false := by cases q : cd.mro with | nil => rw [q] at ho; cases ho | cons _ _ => rfl
  have sub : PySem.W.Looks (model prog w) s.heap (isInstance (.ref x) (.type "object")) true := I.type.andThen (PySem.W.looks_mroIn X (by unfold PySem.W.mroIn; rw [hc, Option.bind_some, if_neg (by rw [ne]; decide), PySem.W.only_has ho]))
  unfold compareOp
  show wpAny _ _ (richCompare .NotEq (.ref x) (.ref y)) _ _ _
  unfold richCompare
  simp only [oneThing_ref]
  refine wpAny_holding ?_
  refine wpAny_bind (wpAny_cRoomFor hu ?_)
  rw [cmpInfo_NotEq]
  dsimp only
  refine wpAny_bind (I.type.here (wpAny_bind (I2.type.here ?_)))
  rw [show (Value.ref C != Value.ref C) = false from by simp]
  simp only [Bool.false_eq_true, if_false]
  refine wpAny_bind (wpAny_pure ?_)
  simp only [Bool.false_eq_true, if_false]
  refine wpAny_bind ?_
  unfold tryCompare
  refine wpAny_bind (ifBound_B X I hn FB.ne.bind (wpAny_call (codeAny_call_builtin FB.ne.plain PySem.F.cmpEntry_ne (@PySem.W.check_slot (model prog w) _ _ s "object.__ne__" "object" "__ne__" (.ref x) [.ref y] [] _ PySem.F.cmpKind_ne PySem.F.cmpSplit_ne sub (PySem.F.cmpArgs_ne _ _) ?_))))
  refine ne_own X I hs hf hu1 (wpAny_mono hcall (fun v s' hv => ?_) fun _ _ e => e)
  obtain ⟨b, rfl, hq⟩ := hv
  first | exact ⟨b, rfl, wpAny_pure (wpAny_pure hq)⟩ | exact ⟨b, rfl, wpAny_pure hq⟩ | exact ⟨b, rfl, hq⟩
end
/-- what a class has that != of its instances is the other of == -/
structure NeO (K : PySem.W.Frag) (C : Addr) : Prop where
  ne : PySem.W.findIn K (.ref C) "__ne__" = some (some (.builtin "object.__ne__"))
  po : PySem.W.plainOver K C = true
theorem back_bool {X : Cx} {pins : List (Addr × Obj)} {σ : L2.St} {Q : VK} {v : Value} {s : Shared} {b : Bool} (h : EP X pins σ (fun z H => z = .bl b ∧ Q z H) v s) : v = .bool b ∧ ∃ H, Inv X pins σ H s ∧ Q (.bl b) H := by
  obtain ⟨y, H, I, r, rfl, q⟩ := h
  cases r
  exact ⟨rfl, H, I, q⟩
section
variable {X : Cx} {G : Gx} {ds es : List D} {y : D} {b : Bool} {c j k : Nat}
theorem sp0_bl {C : List D → Out → Prop} {F1 H : Hp} {dl : List D} {vs : List V} {Q : VK} (sm : Same F1 H) (h : IsAll G F1 dl vs) (hC : C dl (.val (.bl b))) (q : ∀ u F' H', Grow F1 H F' H' → Is G F' (.bl b) u → Q u H') : sp0 G C vs H (fun z H => z = .bl b ∧ Q z H) E0 :=
  ⟨F1, dl, .val (.bl b), sm, h, hC, fun v F2 H2 g q2 => by cases q2; exact ⟨rfl, q _ F2 H2 g rfl⟩⟩
theorem c_eqI {C : List D → Out → Prop} (Pk : PkBin G X.prog X.w X.mg X.base c k "__eq__" C) (hr : Room j X.A) (hk : k ≤ j) (hC : C [.obj c ds, .obj c es] (.val (.bl b))) (hK : G.K = X.K := by rfl) : CmpJ G X .Eq (.obj c ds) (.obj c es) b := by
  obtain ⟨g, bo, F⟩ := Pk
  rw [hK] at bo F
  refine ⟨fun x y H Q => ∃ a a', x = V.ref a ∧ y = V.ref a' ∧ StX.InsC X H a (G.cls c) ∧ StX.InsC X H a' (G.cls c) ∧ sp0 G C [V.ref a, V.ref a'] H (fun z H => z = .bl b ∧ Q z H) E0, ?_, ?_⟩
  · intro pins s σ H x y v u Q I rx ry h
    obtain ⟨a, a', rfl, rfl, i1, i2, sp⟩ := h
    obtain rfl : v = Value.ref a := rx
    obtain rfl : u = Value.ref a' := ry
    obtain ⟨ox, od, J, _⟩ := StX.insC_at I i1
    obtain ⟨oy, oe, J2, _⟩ := StX.insC_at I i2
    obtain ⟨m, hF⟩ := I.fr
    unfold compareOp
    show wpAny _ _ (richCompare .Eq (.ref a) (.ref a')) _ _ _
    refine PySem.W.cmp_K (op := .Eq) (tb := .ref (G.cls c)) hr.units0 hF I.ok.mod.kin J J2.type (by simp [PySem.W.notFirst]) bo.at_ bo.fn (wpAny_mono (wpAny_call (run_fnR (us := [.ref a, .ref a']) (vs := [.ref a, .ref a']) F (hr.mono hk) pass0 I (.cons rfl (.cons rfl .nil)) sp)) (fun v s' h => ?_) fun _ _ e => e)
    obtain ⟨rfl, H1, I1, q1⟩ := back_bool h
    exact ⟨.bl b, H1, I1, rfl, q1⟩
  · intro F1 H v u Q sm h1 h2 q
    have h1' := h1
    have h2' := h2
    obtain ⟨a, dx, fs, rfl, a1, a2, a3⟩ := h1
    obtain ⟨a', dx', fs', rfl, b1, b2, b3⟩ := h2
    exact ⟨a, a', rfl, rfl, .inr ⟨dx, fs, sm _ _ a1⟩, .inr ⟨dx', fs', sm _ _ b1⟩, sp0_bl (dl := [.obj c ds, .obj c es]) sm ⟨_, _, rfl, h1', _, _, rfl, h2', rfl⟩ hC q⟩
theorem c_neI {C : List D → Out → Prop} (Pk : PkBin G X.prog X.w X.mg X.base c k "__eq__" C) (N : NeO G.K (G.cls c)) (hr : Room j X.A) (hk : k + 1 ≤ j) (hC : C [.obj c ds, .obj c es] (.val (.bl b))) (hK : G.K = X.K := by rfl) : CmpJ G X .NotEq (.obj c ds) (.obj c es) (!b) := by
  obtain ⟨g, bo, F⟩ := Pk
  rw [hK] at bo F N
  refine ⟨fun x y H Q => ∃ a a', x = V.ref a ∧ y = V.ref a' ∧ StX.InsC X H a (G.cls c) ∧ StX.InsC X H a' (G.cls c) ∧ sp0 G C [V.ref a, V.ref a'] H (fun z H => z = .bl b ∧ Q (.bl (!b)) H) E0, ?_, ?_⟩
  · intro pins s σ H x y v u Q I rx ry h
    obtain ⟨a, a', rfl, rfl, i1, i2, sp⟩ := h
    obtain rfl : v = Value.ref a := rx
    obtain rfl : u = Value.ref a' := ry
    obtain ⟨ox, od, J, _⟩ := StX.insC_at I i1
    obtain ⟨oy, oe, J2, _⟩ := StX.insC_at I i2
    have hr1 : Room (k + 1) X.A := hr.mono hk
    have hr2 : Room k X.A.in1 := Room.in1 hr1
    refine cmp_ne I.kIn J J2 N.ne N.po bo.at_ bo.fn hr.units0 hr2.units0 (wpAny_mono (wpAny_call (SlX.run_at (us := [.ref a, .ref a']) (ws := [.ref a, .ref a']) F hr2 I.env0.in1 pass0 I (.cons rfl (.cons rfl .nil)) sp)) (fun v s' h => ?_) fun _ _ e => e)
    obtain ⟨y, H1, I1, r1, rfl, q1⟩ := h
    cases r1
    exact ⟨b, rfl, .bl (!b), H1, I1, rfl, q1⟩
  · intro F1 H v u Q sm h1 h2 q
    have h1' := h1
    have h2' := h2
    obtain ⟨a, dx, fs, rfl, a1, a2, a3⟩ := h1
    obtain ⟨a', dx', fs', rfl, b1, b2, b3⟩ := h2
    exact ⟨a, a', rfl, rfl, .inr ⟨dx, fs, sm _ _ a1⟩, .inr ⟨dx', fs', sm _ _ b1⟩, F1, [.obj c ds, .obj c es], .val (.bl b), sm, ⟨_, _, rfl, h1', _, _, rfl, h2', rfl⟩, hC, fun v F2 H2 g q2 => by cases q2; exact ⟨rfl, q _ F2 H2 g rfl⟩⟩
theorem c_inI {C : List D → Out → Prop} (Pk : PkBin G X.prog X.w X.mg X.base c k "__contains__" C) (hr : Room j X.A) (hk : k ≤ j) (hC : C [.obj c ds, y] (.val (.bl b))) (hK : G.K = X.K := by rfl) : CmpJ G X .In y (.obj c ds) b := by
  obtain ⟨g, bo, F⟩ := Pk
  rw [hK] at bo F
  refine ⟨fun x z H Q => ∃ a, z = V.ref a ∧ StX.InsC X H a (G.cls c) ∧ sp0 G C [V.ref a, x] H (fun z H => z = .bl b ∧ Q z H) E0, ?_, ?_⟩
  · intro pins s σ H x z v u Q I rx ry h
    obtain ⟨a, rfl, i1, sp⟩ := h
    obtain rfl : u = Value.ref a := ry
    obtain ⟨ox, od, J, _⟩ := StX.insC_at I i1
    obtain ⟨m, hF⟩ := I.fr
    refine PySem.W.in_K hF I.ok.mod.kin J bo.at_ bo.fn (wpAny_mono (wpAny_call (run_fnR (us := [.ref a, v]) (vs := [.ref a, x]) F (hr.mono hk) pass0 I (.cons rfl (.cons rx .nil)) sp)) (fun v s' h => ?_) fun _ _ e => e)
    obtain ⟨rfl, H1, I1, q1⟩ := back_bool h
    exact wpAny_truthy_bool ⟨.bl b, H1, I1, rfl, q1⟩
  · intro F1 H v u Q sm h1 h2 q
    have h2' := h2
    obtain ⟨a, dx, fs, rfl, a1, a2, a3⟩ := h2
    exact ⟨a, rfl, .inr ⟨dx, fs, sm _ _ a1⟩, sp0_bl (dl := [.obj c ds, y]) sm ⟨_, _, rfl, h2', _, _, rfl, h1, rfl⟩ hC q⟩
theorem c_niI {C : List D → Out → Prop} (Pk : PkBin G X.prog X.w X.mg X.base c k "__contains__" C) (hr : Room j X.A) (hk : k ≤ j) (hC : C [.obj c ds, y] (.val (.bl b))) (hK : G.K = X.K := by rfl) : CmpJ G X .NotIn y (.obj c ds) (!b) := by
  obtain ⟨g, bo, F⟩ := Pk
  rw [hK] at bo F
  refine ⟨fun x z H Q => ∃ a, z = V.ref a ∧ StX.InsC X H a (G.cls c) ∧ sp0 G C [V.ref a, x] H (fun z H => z = .bl b ∧ Q (.bl (!b)) H) E0, ?_, ?_⟩
  · intro pins s σ H x z v u Q I rx ry h
    obtain ⟨a, rfl, i1, sp⟩ := h
    obtain rfl : u = Value.ref a := ry
    obtain ⟨ox, od, J, _⟩ := StX.insC_at I i1
    obtain ⟨m, hF⟩ := I.fr
    refine PySem.W.notIn_K hF I.ok.mod.kin J bo.at_ bo.fn (wpAny_mono (wpAny_call (run_fnR (us := [.ref a, v]) (vs := [.ref a, x]) F (hr.mono hk) pass0 I (.cons rfl (.cons rx .nil)) sp)) (fun v s' h => ?_) fun _ _ e => e)
    obtain ⟨y, H1, I1, r1, rfl, q1⟩ := h
    cases r1
    exact wpAny_truthy_bool ⟨.bl (!b), H1, I1, rfl, q1⟩
  · intro F1 H v u Q sm h1 h2 q
    have h2' := h2
    obtain ⟨a, dx, fs, rfl, a1, a2, a3⟩ := h2
    exact ⟨a, rfl, .inr ⟨dx, fs, sm _ _ a1⟩, F1, [.obj c ds, y], .val (.bl b), sm, ⟨_, _, rfl, h2', _, _, rfl, h1, rfl⟩, hC, fun v F2 H2 g q2 => by cases q2; exact ⟨rfl, q _ F2 H2 g rfl⟩⟩
end
end Fx

/-! sorted of a tuple of tuples. -/
namespace Fx
open PySem L2 PyProof PyProof.Rows
section
variable {X : Cx}
def rSortedT (K : PySem.W.Frag) : List V → Hp → VK → Prop := fun vs H Q => ∃ (a : Addr) (ps : List (Addr × Ky)), vs = [V.ref a] ∧ SqT K H a (refsP ps) ∧ (∀ p ∈ ps, SqT K H p.1 (p.2.map atV)) ∧ FK (ps.map (·.2)) ∧
  ∀ (qs : List (Addr × Ky)) (p : Addr), qs.Perm ps → AscK (qs.map (·.2)) → H p = none → Q (.ref p) (upd H p (.lst (refsP qs)))
theorem cr_sortedT : CallR X (.builtin "sorted") (rSortedT X.K) := by
  intro pins s0 σ H vs us Q I0 r h
  obtain ⟨a, ps, rfl, hs, hk, fk, q⟩ := h
  obtain ⟨its, rv, ⟨o, ho, hcl, n0, hd⟩, hz⟩ := I0.tuple hs
  rw [Vals.ref1 r]
  have ei := refs_vals rv
  have hv : ∀ v ∈ its, ∃ p ∈ ps, v = Value.ref p.1 := fun v hv => by
    rw [ei] at hv
    obtain ⟨p, hp, e⟩ := List.mem_map.mp hv
    exact ⟨p, hp, e.symm⟩
  have hil : its.length ≤ sizeLine := by rw [← rv.length]; exact hz
  refine Calls.call_function_entry kind_sorted plain_sorted entry_sorted (args_sorted1 _) (by
    unfold Builtin.«sorted»
    refine wpAny_bind (m := checkCount "sorted" 1 1 _) (wpAny_pure (wpAny_bind (wpAny_collect_seq (A := X.A.in1) a (.inr rfl) ho hcl hd (fun h' k1 => ?_) (by rw [List.size_toArray]; exact hil))))
    have I : Inv X pins σ H { s0 with heap := h' } := I0.kept (t' := s0.toks) k1
    generalize hs1 : ({ s0 with heap := h' } : Shared) = s1 at I ⊢
    show wpAny _ _ (newList its >>= _) _ _ s1
    refine wpAny_bind (wpAny_newList ?_ hil)
    have hoL : (s1.heap.push (seqObj "list" its.toArray 0)).get? s1.heap.objs.size = some (seqObj "list" its.toArray 0) := Heap.get?_push_size _ rfl
    have hky : ∀ v ∈ its, IsKy (s1.heap.push (seqObj "list" its.toArray 0)) v (keyAt ps v) := fun v hv' => by
      obtain ⟨p, hp, rfl⟩ := hv v hv'
      rw [keyAt_mem I hk hp]
      exact (key_of I (hk p hp)).keeps fun b u e _ => Heap.get?_push_of_some _ e
    refine wpAny_bind (wpAny_holding (wpAny_call_entry slot_list_sort ⟨_, hoL, rfl⟩ entry_list_sort (SrtO.list_sort_ord (s := { s1 with heap := s1.heap.push (seqObj "list" its.toArray 0) }) (swoK (keyAt ps)) hoL hil (fun h2 => keys_sortable (by omega) hky (fk_keys I hk fk hv) fun o e => not_tup_list hoL e) fun out hs hb => ⟨_, rfl, ?_⟩) (args_list_sort _)))
    obtain ⟨qs, p1, e1, h3⟩ := out_keys I hk hs (by rw [← ei]; exact hb.perm)
    obtain ⟨c, hcc⟩ := sortedHeap_at (vs := its) (out := out.toArray) hoL
    refine wpAny_pure ⟨_, rfl, ?_⟩
    have kall : ∀ b u, s1.heap.get? b = some u → (sortedHeap (s1.heap.push (seqObj "list" its.toArray 0)) s1.heap.objs.size its out.toArray).get? b = some u := fun b u e => by
      have hlt := Heap.lt_size e
      rw [sortedHeap_old (Nat.ne_of_lt hlt) (by rw [size_push']; exact Nat.lt_succ_of_lt hlt)]
      exact Heap.get?_push_of_some _ e
    refine ⟨.ref s1.heap.objs.size, upd H s1.heap.objs.size (.lst (refsP qs)), I.laid (t' := s1.toks) kall (Nat.le_refl _) ⟨?_, out, c, by rw [e1]; exact vals_refs qs, hcc⟩, rfl, q qs _ p1 h3 (I.hok.fresh (Nat.le_refl _))⟩
    have : (refsP qs).length = its.length := by rw [refsP, List.length_map, p1.length_eq, ei, List.length_map]
    rw [this]
    exact hil)
end
section
variable {X : Cx} {G : Gx} {e : Expr} {pos p1 p2 q2 : Pos} {cs cs1 : List Cell}
theorem evn_sortedT {ks : List Ky} (ha : Ev G (rdE X e) cs (.tup (ks.map kyD)) cs1) (fk : FK ks) (g1 : Gl X "sorted") (m1 : X.mg "sorted" = none) (hK : G.K = X.K := by rfl) (hs : starEach [e] X.env = (false, eval e X.env) :: starEach [] X.env := by rfl) (hpl : (backTo pos (starEach [] X.env)).any (·.1) = false := by rfl) :
    EvN G (rdE X (.Call (.Name "sorted" p1) [e] [] pos)) cs ((srtK ks).map kyD) cs1 := by
  refine evn_of (pe_callB cr_sortedT g1 m1 (by decide +kernel) (pa_cons pe_rd pa_nil hs) (by decide) (by decide) hs hpl) ?_
  intro F σ H Q rl q
  refine ha F σ H _ rl fun v F1 H1 st1 r1 q1 => ?_
  obtain ⟨a, vs, rfl, h1, h2⟩ := q1
  obtain ⟨ps, rfl, e2, h3⟩ := isAll_keys h2
  subst e2
  rw [← hK]
  refine ⟨a, ps, rfl, same_t r1.sub h1, fun p hp => same_t r1.sub (h3 p hp), fk, fun qs p pm asc hp => ?_⟩
  have e3 : srtK (ps.map (·.2)) = qs.map (·.2) := srtK_of (pm.map _) asc
  refine evn_new st1 rl r1 q p _ hp ?_
  rw [e3]
  exact keys_isAll qs fun z hz => h3 z (pm.mem_iff.mp hz)
end
end Fx

/-! max of a tuple of ints. -/
namespace Fx
open PySem L2 PyProof PyProof.Rows
section
variable {prog : Program} {w : World} {A : Around} {E : Value → Shared → Prop} {s : Shared} {l : Addr} {xs : Array (Int × Tok)}
theorem iter_intTup {Q : Value → Shared → Prop} (hl : s.heap.IsTuple l (intItems xs))
    (h : ∀ s₂ : Shared, s₂ = { s with heap := s.heap.push { cls := .type "tuple_iterator", data := .fields #[.ref l, .int 0 0] } } →
      (s₂.heap.IsTupleIter s.heap.objs.size l 0 ∧ s₂.heap.IsTuple l (intItems xs)) → (∀ b ∈ [s.heap.objs.size, l], b < s₂.heap.objs.size) → l ≠ s.heap.objs.size → Q (.ref s.heap.objs.size) s₂) :
    wpAny (model prog w) A (pyIter (.ref l)) Q E s := by
  have hlt : l < s.heap.objs.size := by obtain ⟨_, e, _⟩ := hl; exact Heap.lt_size e
  refine wpAny_pyIter_tuple hl (h _ rfl ⟨⟨_, Heap.get?_push_size _ rfl, rfl, rfl⟩, hl.push _⟩ (fun b hb => ?_) (Nat.ne_of_lt hlt))
  show b < (s.heap.push _).objs.size
  rw [Heap.size_push]
  rcases List.mem_cons.mp hb with rfl | hb
  · exact Nat.lt_succ_self _
  · rcases List.mem_cons.mp hb with rfl | hb
    · exact Nat.lt_succ_of_lt hlt
    · cases hb
theorem max_intTup {Q : Value → Shared → Prop} (hh : A.handled = none) (hl : s.heap.IsTuple l (intItems xs)) (hne : 0 < xs.size)
    (h : ∀ v h' tk, (intItems xs)[argBest (fun i j => decide (numAt xs i > numAt xs j)) (xs.size - 1)]? = some v → (∀ b o, s.heap.get? b = some o → h'.get? b = some o) → Q v { s with heap := h', toks := tk }) :
    wpAny (model prog w) A (call (.builtin "max") [.ref l]) Q E s := by
  refine call_max_walk (iter_intTup hl fun s₂ e st hfp hlI => ?_)
  subst e
  refine ⟨_, _, _, _, _, _, _, rfl, Walks.tuple (A := A.in1) hh _ l hlI (intItems xs), st, hfp, by simpa [intItems] using hne, CmpOf.ints_gt (numAt xs) (fun _ _ => intItems_at), fun v h' tk hP hk => ?_⟩
  refine h v h' tk (by simpa [intItems] using hP) fun b o e => hk b o (fun hm => ?_) (Heap.get?_push_of_some _ e)
  rcases List.mem_cons.mp hm with e1 | hm
  · exact absurd (e1 ▸ Heap.lt_size e) (Nat.lt_irrefl _)
  · cases hm
theorem max_rawT {its : List Value} {ns : List Int} {Q : Value → Shared → Prop} (hh : A.handled = none) (hl : s.heap.IsTuple l its.toArray) (hi : IntsAre its ns) (hne : 0 < ns.length)
    (h : ∀ h' tk M t', (∀ b o, s.heap.get? b = some o → h'.get? b = some o) → M ∈ ns → (∀ a, a ∈ ns → a ≤ M) → Q (.int M t') { s with heap := h', toks := tk }) : wpAny (model prog w) A (call (.builtin "max") [.ref l]) Q E s := by
  obtain ⟨xs, e⟩ := hi.allInts.items
  have hn : numsOf (intItems xs).toList = ns := by rw [← e]; exact hi.numsOf
  rw [nums_intItems] at hn
  subst hn
  rw [e] at hl
  have hsz : 0 < xs.size := by simpa using hne
  refine max_intTup hh hl hsz fun v h' tk hv hk => ?_
  obtain ⟨t, rfl⟩ := intItems_at hv
  obtain ⟨h1, h2⟩ := argBest_gt (numAt xs) (xs.size - 1)
  refine h h' tk _ t hk ?_ fun a ha => ?_
  · rw [numAt_eq]; exact PySem.getD_mem (by rw [List.length_map, Array.length_toList]; omega)
  · obtain ⟨j, hj, rfl⟩ := mem_getD ha
    rw [List.length_map, Array.length_toList] at hj
    rw [← numAt_eq]; exact h2 j (by omega)
end
section
variable {X : Cx}
def rMaxT (K : PySem.W.Frag) : List V → Hp → VK → Prop := fun vs H Q => ∃ (a : Addr) (ns : List Int), vs = [V.ref a] ∧ SqT K H a (ns.map V.int) ∧ 0 < ns.length ∧ ∀ m, m ∈ ns → (∀ y, y ∈ ns → y ≤ m) → Q (.int m) H
theorem cr_maxT (hc : X.calm = true) : CallR X (.builtin "max") (rMaxT X.K) := by
  intro pins s σ H vs us Q I r h
  obtain ⟨a, ns, rfl, hs, hne, q⟩ := h
  obtain ⟨its, rv, hl, _⟩ := I.tuple hs
  rw [Vals.ref1 r]
  exact max_rawT (I.ok.hd hc) hl rv.ints hne fun h' tk m t' hk h1 h2 => ⟨.int _, H, I.kept hk, ⟨_, rfl⟩, q m h1 h2⟩
end
section
variable {X : Cx} {G : Gx} {e : Expr} {pos p1 : Pos} {cs cs1 : List Cell}
theorem ev_maxT {ns : List Int} {m : Int} (ha : Ev G (rdE X e) cs (.tup (ns.map .int)) cs1) (h1 : m ∈ ns) (h2 : ∀ y ∈ ns, y ≤ m) (hc : X.calm = true) (g1 : Gl X "max") (m1 : X.mg "max" = none) (hK : G.K = X.K := by rfl) (hs : starEach [e] X.env = (false, eval e X.env) :: starEach [] X.env := by rfl) (hpl : (backTo pos (starEach [] X.env)).any (·.1) = false := by rfl) :
    Ev G (rdE X (.Call (.Name "max" p1) [e] [] pos)) cs (.int m) cs1 := by
  refine ev_of (pe_callB (cr_maxT hc) g1 m1 (by decide +kernel) (pa_cons pe_rd pa_nil hs) (by decide) (by decide) hs hpl) ?_
  intro F σ H Q rl q
  refine ha F σ H _ rl fun v F1 H1 st1 r1 q1 => ?_
  obtain ⟨a, vs, rfl, a1, a2⟩ := q1
  have ex := ints_vals a2
  subst ex
  rw [← hK]
  refine ⟨a, ns, rfl, same_t r1.sub a1, List.length_pos_of_mem h1, fun m' h3 h4 => ?_⟩
  have e : m' = m := by have := h4 m h1; have := h2 m' h3; omega
  subst e
  exact q _ F1 H1 st1 r1 rfl
end
section
variable {X : Cx} {G : Gx} {e e2 : Expr} {p pos : Pos} {cs cs1 : List Cell}
/-- for a, b in zip(tuple, tuple) -/
theorem ei_zipA {xs ys : List D} {zp tpos : Pos} {elts : List Expr} {kk : Nat} (h : EvV G (rdA X [e, e2]) cs [.tup xs, .tup ys] cs1) (hg : Gl X "zip") (hm : X.mg "zip" = none)
    (hs : starEach [e, e2] X.env = (false, eval e X.env) :: starEach [e2] X.env := by rfl) (hpl : (backTo pos (starEach [e2] X.env)).any (·.1) = false := by rfl) (hK : G.K = X.K := by rfl) :
    EvI G (rdI X (.Tuple elts kk tpos) (.Call (.Name "zip" zp) [e, e2] [] pos)) cs (List.zipWith (fun x y => .tup [x, y]) xs ys) cs1 :=
  ei_of (RZ.pi_zipA hg hm pa_rd hs hpl) fun F σ H R rl q => h F σ H _ rl fun vs F1 H1 st1 r1 q1 => by
    obtain ⟨v1, r, rfl, ⟨a, us, rfl, h1, h2⟩, v2, r', rfl, ⟨b, ws, rfl, h3, h4⟩, h5⟩ := q1
    cases h5
    have tt : ∀ {a : Addr} {us : List V} {F2 : Hp} {H2 : Hp}, SqT G.K F1 a us → Same F1 F2 → Same F2 H2 → SqT X.K H2 a us := fun hq s1 s2 => by rw [← hK]; exact same_t (s1.trans s2) hq
    refine ⟨a, b, us, ws, rfl, .inr ⟨by rw [← hK]; exact same_t r1.sub h1, by rw [← hK]; exact same_t r1.sub h3, q _ F1 H1 st1 r1 fun F2 H2 s1 s2 => ⟨fun i d hd => ?_, ?_⟩⟩⟩
    · have ha := tt h1 s1 s2
      have hb := tt h3 s1 s2
      rw [List.getElem?_zipWith] at hd
      cases ex : xs[i]? with
      | none => rw [ex] at hd; cases hd
      | some x =>
        cases ey : ys[i]? with
        | none => rw [ex, ey] at hd; cases hd
        | some y =>
          rw [ex, ey] at hd
          cases hd
          obtain ⟨vx, e1, i1⟩ := h2.get ex
          obtain ⟨vy, e2, i2⟩ := h4.get ey
          refine ⟨⟨us, ws, vx, vy, ha, hb, e1, e2⟩, ?_⟩
          rintro z H3 ⟨T, x', y', rfl, hT, rfl, q1, q2⟩
          have z1 := q1 _ ha
          have z2 := q2 _ hb
          rw [e1] at z1; cases z1
          rw [e2] at z2; cases z2
          have g := grow_know (o := .tup [vx, vy]) s2 hT
          exact ⟨_, g, T, _, rfl, SqT.of upd_same, vx, [vy], rfl, Is.mono (s1.trans g.fsub) _ i1, vy, [], rfl, Is.mono (s1.trans g.fsub) _ i2, rfl⟩
    · refine ⟨us, ws, tt h1 s1 s2, tt h3 s1 s2, ?_⟩
      rw [h2.length, h4.length, List.length_zipWith]; omega
end
end Fx

/-! calls with arguments told by a relation. -/
namespace Fx
open PySem L2
section
variable {X : Cx} {G : Gx} {e : Expr} {es : List Expr} {np pos : Pos} {n : Str} {cs : List Cell} {j k : Nat} {R : List D → List Cell → Prop} {R' : D → List Cell → Prop}
theorem evr_cmethP {c : Nat} {op ap : Pos} {nm on : Str} {C : List D → Out → Prop} {pl : Sem Bool} (Pk : PkCls G X.prog X.w X.mg X.base c k nm C) (hr : Room j X.A) (hk : k ≤ j) (hg : Gl X on) (hm : X.mg on = some (.ref (G.cls c))) (ha : EvVR G (rdA X (e :: es)) cs R) (hC : ∀ ds cs1, R ds cs1 → ∃ z, C (.cls c :: ds) (.val z) ∧ R' z cs1) (hK : G.K = X.K := by rfl) (hdb : (on == ("__debug__" : Str)) = false := by decide)
    (hst : starEach (e :: es) X.env = (false, eval e X.env) :: starEach es X.env := by rfl) (hpl : (backTo pos (starEach es X.env)).any (·.1) = false := by rfl)
    (ht : eval (.Call (.Attribute (.Name on op) nm ap) (e :: es) [] pos) X.env = (do
      let ov ← eval (.Name on op) X.env
      standAt ap.atName
      let (f, first) ← holding [ov] (getMethod ov nm pl)
      callWith pos f first (backTo pos (starEach (e :: es) X.env)) (backToKw pos (keywordEach [] X.env))) := by rfl) : EvR G (rdE X (.Call (.Attribute (.Name on op) nm ap) (e :: es) [] pos)) cs R' := by
  obtain ⟨mc, pa, g, h1, h2, h3⟩ := Pk
  rw [hK] at h1 h2 h3
  refine evr_of (ClX.pe_cmeth (E := E0) (pe_glob (v := .ref (G.cls c)) hg hm rfl hdb) h1 h2 h3 (hr.mono hk) pass0 pa_rd hst hpl ht) fun F σ H Q rl q => ⟨rfl, ha F σ H _ rl fun ds cs1 vs F1 H1 hR st1 r1 q1 => ?_⟩
  obtain ⟨z, hc, hz⟩ := hC ds cs1 hR
  exact ⟨F1, .cls c :: ds, .val z, r1.sub, ⟨_, vs, rfl, rfl, q1⟩, hc, fun v F3 H3 g q3 => q z cs1 v F3 H3 hz (st1.trans g.stp) (r1.grow g) q3⟩
end
end Fx

/-! FxF: try .. except with several clauses, each by a class of the text. -/
namespace Fx
open PySem L2
section
variable {X : Cx} {G : Gx} {W : WX} {cs : List Cell} {P : Post} {S S' : Nat → List Cell → Prop}
/-- what a clause's suite wishes -/
def tSuite (X : Cx) (suite : List Stmt) : TS := fun D σ H => ∀ (a : Addr) (pn : List (Addr × Obj)), rdSs (X.suite a pn) suite D σ H
inductive HsN (G : Gx) (X : Cx) : List ExceptHandler → List (Nat × List Stmt) → Prop
  | nil : HsN G X [] []
  | cons {x : Str} {h : Nat} {b₀ : Stmt} {suite : List Stmt} {np pos' : Pos} {hds : List ExceptHandler} {l : List (Nat × List Stmt)} (hc : Names X x (.ref (G.cls h))) (r : HsN G X hds l) :
      HsN G X (.ExceptHandler (some (.Name x np)) none (b₀ :: suite) pos' :: hds) ((h, b₀ :: suite) :: l)
def lOf (G : Gx) (X : Cx) (l : List (Nat × List Stmt)) : List (Value × (Addr → Value → Option Addr → TS)) := l.map fun p => (.ref (G.cls p.1), fun _ _ _ => tSuite X p.2)
theorem HsN.ok {hds : List ExceptHandler} {l : List (Nat × List Stmt)} (h : HsN G X hds l) : HdsOk X hds (lOf G X l) := by
  induction h with
  | nil => exact .nil
  | cons hc r ih => exact .cons hc (fun a oe cls d pn hz hv => ⟨fun pins s σ H D I h => pss_rd.run pins s σ H D I (h a _)⟩) ih
/-- an exception of the class c: the first clause that names a class above it takes it; else it goes out -/
def HdOk (G : Gx) (X : Cx) (P : Post) (S : Nat → List Cell → Prop) (c : Nat) (cs' : List Cell) : List (Nat × List Stmt) → Prop
  | [] => S c cs'
  | (h, suite) :: r => (PySem.W.exmOne X.K (.ref (G.cls c)) (.ref (G.cls h)) = some true ∧ ∀ (a : Addr) (pn : List (Addr × Obj)), Sx G (rdSs (X.suite a pn) suite) cs' P) ∨ (PySem.W.exmOne X.K (.ref (G.cls c)) (.ref (G.cls h)) = some false ∧ HdOk G X P S c cs' r)
theorem HdOk.many {F H F' H' : Hp} {σ' : L2.St} {E : Ends} {c : Nat} {cs' : List Cell} (st : Stp F H (Owns cs) F' H' (Owns cs')) (r : Rel G F' σ' H' cs') (k1 : Goes G F H (Owns cs) P.nx E.nx) (k2 : GoesV G F H (Owns cs) P.rt E.rt) (k3 : GoesN G F H (Owns cs) P.rn E.rt) (k4 : Goes G F H (Owns cs) P.bk E.bk) (k5 : Goes G F H (Owns cs) P.ct E.ct) (k6 : GoesX G F H (Owns cs) S W) :
    ∀ l : List (Nat × List Stmt), HdOk G X P S c cs' l → wMany X.K W E (lOf G X l) (.ref (G.cls c)) none σ' H'
  | [], q => k6 c cs' σ' F' H' q st r
  | (h, suite) :: l, q => by
    rcases q with ⟨e, q⟩ | ⟨e, q⟩
    · exact ⟨true, e, (fun _ a _ a' pn' => q a' pn' F' σ' H' E r (k1.after st) (k2.after st) (k3.after st) (k4.after st) (k5.after st)), (fun z => nomatch z)⟩
    · exact ⟨false, e, (fun z => nomatch z), (fun _ => HdOk.many st r k1 k2 k3 k4 k5 k6 l q)⟩
def tBody (X : Cx) (body : List Stmt) (W : WX) : TS := fun D σ H => ∀ (pn : List (Addr × Obj)) (xe : Value → Shared → Prop), Takes (X.tr pn xe) W → PassesOwn (model X.prog X.w) X.A X.env xe → rdSs (X.tr pn xe) body D σ H
theorem xs_try {body : List Stmt} {h₀ : ExceptHandler} {hds : List ExceptHandler} {l : List (Nat × List Stmt)} {pos : Pos} (hN : HsN G X (h₀ :: hds) l) (tk : Takes X W)
    (hb : ∀ (W' : WX) (pn : List (Addr × Obj)) (xe : Value → Shared → Prop), Takes (X.tr pn xe) W' → PassesOwn (model X.prog X.w) X.A X.env xe → SxX G W' (rdSs (X.tr pn xe) body) cs P S')
    (hh : ∀ c cs', S' c cs' → HdOk G X P S c cs' l) (hs : X.stack = X.env :: X.outer := by rfl) (hf : X.env.frame = some X.env.locals := by rfl) : SxX G W (rdS X (.Try body (h₀ :: hds) [] [] pos)) cs P S := by
  refine xs_of (ps_try_many (tb := tBody X body) hs hf tk (fun W' pn xe t p => ⟨fun pins s σ H D I h => pss_rd.run pins s σ H D I (h pn xe t p)⟩) hN.ok) fun F σ H E rl k1 k2 k3 k4 k5 k6 => ?_
  intro pn xe t p
  refine hb _ pn xe t p F σ H E rl k1 k2 k3 k4 k5 fun c cs' σ' F' H' hS st r => ?_
  exact HdOk.many st r k1 k2 k3 k4 k5 k6 l (hh c cs' hS)
/-- .. in a def that lets nothing out -/
theorem sx_tryX {body : List Stmt} {h₀ : ExceptHandler} {hds : List ExceptHandler} {l : List (Nat × List Stmt)} {pos : Pos} (hN : HsN G X (h₀ :: hds) l)
    (hb : ∀ (W' : WX) (pn : List (Addr × Obj)) (xe : Value → Shared → Prop), Takes (X.tr pn xe) W' → PassesOwn (model X.prog X.w) X.A X.env xe → SxX G W' (rdSs (X.tr pn xe) body) cs P S')
    (hh : ∀ c cs', S' c cs' → HdOk G X P (fun _ _ => False) c cs' l) (hs : X.stack = X.env :: X.outer := by rfl) (hf : X.env.frame = some X.env.locals := by rfl) : Sx G (rdS X (.Try body (h₀ :: hds) [] [] pos)) cs P :=
  fun F σ H E rl k1 k2 k3 k4 k5 => xs_try (W := fun _ _ _ _ => False) hN (fun u s' ⟨_, _, _, _, _, _, _, _, _, _, _, _, _, _, _, _, w⟩ => False.elim w) hb hh hs hf F σ H E rl k1 k2 k3 k4 k5 fun c cs' _ _ _ h _ _ => False.elim h
end
end Fx

/-! FxG: isinstance of things that are no instances of a class of the text. -/
namespace Fx
open PySem L2
section
variable {X : Cx} {G : Gx} {e : Expr} {pos : Pos} {cs cs1 : List Cell} {d : D} {ds : List D}
theorem ev_isF {ip tp : Pos} {T : Str} {t : String} {c : Nat} (ha : Ev G (rdE X e) cs d cs1) (ht : tyN d = some t) (hk : PySem.W.kitOne X.K (.type t) (.ref (G.cls c)) = some false) (m1 : X.mg "isinstance" = none) (g1 : Gl X "isinstance") (m2 : X.mg T = some (.ref (G.cls c))) (g2 : Gl X T) (hK : G.K = X.K := by rfl) (hd : (T == ("__debug__" : Str)) = false := by decide)
    (hs : starEach [e, .Name T tp] X.env = (false, eval e X.env) :: starEach [.Name T tp] X.env := by rfl) (hs2 : starEach [.Name T tp] X.env = (false, eval (.Name T tp) X.env) :: starEach [] X.env := by rfl) (hpl : (backTo pos (starEach [.Name T tp] X.env)).any (·.1) = false := by rfl) :
    Ev G (rdE X (.Call (.Name "isinstance" ip) [e, .Name T tp] [] pos)) cs (.bl false) cs1 :=
  ev_of (pe_callB call_isi g1 m1 (by decide +kernel) (pa_cons pe_rd (pa_cons (pe_glob (v := .ref (G.cls c)) g2 m2 rfl hd) pa_nil hs2) hs) (by decide) (by decide) hs hpl) fun F σ H Q rl q => ha F σ H _ rl fun v F1 H1 st1 r1 q1 => by
    have ty := tyX_of r1.sub q1 ht
    rw [hK] at ty
    exact ⟨v, .ref (G.cls c), _, _, false, rfl, .own _, ty, hk, q _ F1 H1 st1 r1 rfl⟩
/-- an instance of another class -/
theorem ev_isO {ip tp : Pos} {T : Str} {c c' : Nat} (ha : Ev G (rdE X e) cs (.obj c' ds) cs1) (hC : ∀ a dx fs, TyOf X.K (fun b => if b = a then some (.ins (G.cls c') dx fs) else none) (.ref a) (.ref (G.cls c'))) (hk : PySem.W.kitOne X.K (.ref (G.cls c')) (.ref (G.cls c)) = some false) (m1 : X.mg "isinstance" = none) (g1 : Gl X "isinstance") (m2 : X.mg T = some (.ref (G.cls c))) (g2 : Gl X T) (hd : (T == ("__debug__" : Str)) = false := by decide)
    (hs : starEach [e, .Name T tp] X.env = (false, eval e X.env) :: starEach [.Name T tp] X.env := by rfl) (hs2 : starEach [.Name T tp] X.env = (false, eval (.Name T tp) X.env) :: starEach [] X.env := by rfl) (hpl : (backTo pos (starEach [.Name T tp] X.env)).any (·.1) = false := by rfl) :
    Ev G (rdE X (.Call (.Name "isinstance" ip) [e, .Name T tp] [] pos)) cs (.bl false) cs1 :=
  ev_of (pe_callB call_isi g1 m1 (by decide +kernel) (pa_cons pe_rd (pa_cons (pe_glob (v := .ref (G.cls c)) g2 m2 rfl hd) pa_nil hs2) hs) (by decide) (by decide) hs hpl) fun F σ H Q rl q => ha F σ H _ rl fun v F1 H1 st1 r1 q1 => by
    obtain ⟨a, dx, fs, rfl, h1, _⟩ := q1
    refine ⟨.ref a, .ref (G.cls c), _, _, false, rfl, .own _, .base ?_, hk, q _ F1 H1 st1 r1 rfl⟩
    have z := hC a dx fs
    cases z with
    | ins e cl ha hn htk hm =>
      exact .ins (r1.sub _ _ h1) cl ha hn htk hm
end
end Fx

/-! FxH: defs that may raise, called where nothing is raised; x + y whose method may raise; which class an exception is caught by. -/
namespace Fx
open PySem L2 PyProof.Rows PySem.Calls
/-- the kinds of value that are no instance of a class of the text -/
def oddT : List String := ["NoneType", "bool", "int", "str", "tuple", "list", "dict"]
def Exm (G : Gx) (a b : Nat) (r : Bool) : Prop := PySem.W.exmOne G.K (.ref (G.cls a)) (.ref (G.cls b)) = some r
def KitF (G : Gx) (c : Nat) : Prop := ∀ t ∈ oddT, PySem.W.kitOne G.K (.type t) (.ref (G.cls c)) = some false
def KitO (G : Gx) (a b : Nat) : Prop := PySem.W.kitOne G.K (.ref (G.cls a)) (.ref (G.cls b)) = some false
section
variable {P : Program} {w : World} {G : Gx} {mg : Str → Option Value} {base : Heap} {k : Nat} {n : Str} {f : Addr}
theorem fnR_of_X {C : List D → Out ⊕ Nat → Prop} {C0 : List D → Out → Prop} (F : FnR P w G.K mg base (L2.CX P w) k f (spX G C)) (h : ∀ ds o, C0 ds o → C ds (.inl o)) : FnR P w G.K mg base CX0 k f (sp0 G C0) := by
  intro A outer s H us vs Q E hr e0 r hsp
  obtain ⟨F0, ds, o, sm, hi, hc, ret⟩ := hsp
  refine codeAny_mono (F A outer s H us vs Q E0 hr e0 r ⟨F0, ds, .inl o, sm, hi, h ds o hc, ret⟩) fun r s' hq => ?_
  cases r with
  | error e =>
    obtain ⟨a, B, H', cls, d, _, _, _, _, _, _, _, z⟩ := hq
    exact False.elim z
  | ok fl => cases fl <;> exact hq
theorem FnX.fn0 {C : List D → Out ⊕ Nat → Prop} {C0 : List D → Out → Prop} (F : FnX G P w mg base k n C) (h : ∀ ds o, C0 ds o → C ds (.inl o)) : Fn0 G P w mg base k n C0 := by
  obtain ⟨f, h1, h2, h3⟩ := F
  exact ⟨f, h1, h2, fnR_of_X h3 h⟩
end
section
variable {X : Cx} {G : Gx} {e : Expr} {es : List Expr} {np pos : Pos} {n : Str} {cs cs1 : List Cell} {d : D} {ds : List D} {j k : Nat}
theorem ev_fnX {C : List D → Out ⊕ Nat → Prop} (Fn : FnX G X.prog X.w X.mg X.base k n C) (hr : Room j X.A) (hk : k ≤ j) (ha : EvV G (rdA X (e :: es)) cs ds cs1) (hC : C ds (.inl (.val d))) (hg : Gl X n) (hK : G.K = X.K := by rfl) (hd : (n == ("__debug__" : Str)) = false := by decide)
    (he : starEach (e :: es) X.env = (false, eval e X.env) :: starEach es X.env := by rfl) (hpl : (backTo pos (starEach es X.env)).any (·.1) = false := by rfl) : Ev G (rdE X (.Call (.Name n np) (e :: es) [] pos)) cs d cs1 :=
  ev_fn0 (Fn.fn0 (C0 := fun ds o => C ds (.inl o)) fun _ _ h => h) hr hk ha hC hg hK hd he hpl
end
/-! ### x + y -/
section
variable {prog : Program} {w : World} {A : Around} {E : Value → Shared → Prop} {s : Shared} {K : PySem.W.Frag} {x C f : Addr} {ox : Obj} {od : Option Obj} {T : String} {b : Value}
theorem bin_type {op : Operator} {Q : Value → Shared → Prop} {fo ro : Option Value} (X : K.In s.heap) (I : PySem.W.InstAt s.heap x ox C od) (LT : PySem.W.Looks (model prog w) s.heap (typeOf b) (.type T)) (hc : PySem.W.selfFirst K C = true)
    (hs : PySem.W.findIn K (.ref C) (PySem.dunder op.info.2) = some (some (.ref f))) (hf : PySem.W.isFn K (.ref f) = true) (hr : PySem.W.findIn K (.ref C) (dunderR op.info.2) = some none)
    (h1 : PySem.W.findIn K (.type T) (PySem.dunder op.info.2) = some fo) (h2 : PySem.W.findIn K (.type T) (dunderR op.info.2) = some ro) (hsub : PySem.W.subIn K (.type T) (.ref C) = some false)
    (h : wpAny (model prog w) A (call (.ref f) [.ref x, b]) (PySem.W.CmpBack Q) E s) : wpAny (model prog w) A (binaryOp op (.ref x) b) Q E s := by
  obtain ⟨cd, rest, hcd, hm⟩ := PySem.W.ksp_first hc
  rcases hi : op.info with ⟨sym, nm'⟩
  rw [hi] at hs hr h1 h2
  dsimp only at hs hr h1 h2
  have one := PySem.W.ksp_try X I hs hf h
  obtain ⟨hh, g, d, tt, os⟩ := s
  have L1 : PySem.W.Looks (model prog w) hh (typeOf (.ref x)) (.ref C) := I.type
  have L2 : PySem.W.Looks (model prog w) hh (typeOf b) (.type T) := LT
  have L3 : PySem.W.Looks (model prog w) hh (fillsNumberSlot (.ref C) nm') true := PySem.W.fills_K X hcd hm hs
  have L4 : PySem.W.Looks (model prog w) hh (fillsNumberSlot (.type T) nm') ((fo.isSome && !isSeqSlot fo) || (ro.isSome && !isSeqSlot ro)) := PySem.W.ksp_fillsT X h1 h2
  have L5 : PySem.W.Looks (model prog w) hh (isSubtype (.type T) (.ref C)) false := PySem.W.looks_subIn X hsub
  have L6 : PySem.W.Looks (model prog w) hh (numberSlotInPython (.ref C) nm') true := PySem.W.ksp_inPy X hs hr (.inl rfl)
  have L7 : PySem.W.Looks (model prog w) hh (numberSlotInPython (.type T) nm') false := PySem.W.Looks.of_pure rfl
  have L8 : PySem.W.Looks (model prog w) hh (typeLookup (.type T) (dunderR nm')) ro := PySem.W.looks_findIn X h2
  generalize ((fo.isSome && !isSeqSlot fo) || (ro.isSome && !isSeqSlot ro)) = right at L4
  have ne : (Value.ref C == Value.type T) = false := Bool.eq_false_iff.mpr fun q => by cases beq_iff_eq.mp q
  simp only [binaryOp, hi]
  refine wpAny_holding (wpAny_bind ?_)
  unfold binaryOp1
  refine wpAny_bind (L1.at (wpAny_bind (L2.at (wpAny_bind (L3.at ?_)))))
  simp only [ne, Bool.false_eq_true, if_false]
  have fin : ∀ (z : Bool), right = z → wpAny (model prog w) A (tryMethod (.ref x) (PySem.dunder nm') b) (fun r s' => ∃ v, r = some v ∧ Q v s') E ⟨hh, g, d, tt, os⟩ := fun _ _ => one
  cases right <;>
    (ksp_lk
     refine wpAny_mono (fin _ rfl) (fun r s' z => ?_) (fun _ _ z => z)
     obtain ⟨v, rfl, hq⟩ := z
     ksp_lk
     exact hq)
end
section
variable (G : Gx) (P : Program) (w : World) (mg : Str → Option Value) (base : Heap) (c k : Nat)
def PkBinX (m mr : Str) (C : List D → Out ⊕ Nat → Prop) : Prop := ∃ g, BinO G.K (G.cls c) g m ∧ PySem.W.findIn G.K (.ref (G.cls c)) mr = some none ∧ FnR P w G.K mg base (L2.CX P w) k g (spX G C)
end
section
variable {X : Cx} {G : Gx} {W : WX} {a b : Expr} {pos : Pos} {cs cs1 cs2 : List Cell} {ds : List D} {y z : D} {c j k : Nat} {R : D → List Cell → Prop} {S : Nat → List Cell → Prop} {o : Out ⊕ Nat}
/-- what the right side of x + y may be -/
def RightOk (X : Cx) (G : Gx) (c : Nat) (op : Operator) (H : Hp) (v : V) : Prop := (∃ p, v = .ref p ∧ StX.InsC X H p (G.cls c)) ∨ ∃ T fo ro, TyX X.K H v (.type T) ∧ PySem.W.findIn X.K (.type T) (PySem.dunder op.info.2) = some fo ∧ PySem.W.findIn X.K (.type T) (dunderR op.info.2) = some ro ∧ PySem.W.subIn X.K (.type T) (.ref (G.cls c)) = some false
theorem pe_binW {op : Operator} {g : Addr} {sp : Sp} {ta tb : TE} (F : FnR X.prog X.w X.K X.mg X.base (L2.CX X.prog X.w) k g sp) (hr : Room k X.A) (tk : Takes X W) (hb : BinO X.K (G.cls c) g (PySem.dunder op.info.2)) (hn : PySem.W.findIn X.K (.ref (G.cls c)) (dunderR op.info.2) = some none) (ha : PE X a ta) (hb2 : PE X b tb) :
    PE X (.BinOp a op b pos) (fun σ H Q => ta σ H fun x H1 => tb σ H1 fun y H2 => ∃ p, x = .ref p ∧ StX.InsC X H2 p (G.cls c) ∧ RightOk X G c op H2 y ∧ sp [x, y] H2 Q (WE W σ)) := by
  refine ⟨fun pins s σ H Q I h => ?_⟩
  refine wpAny_BinOp (binT ha hb2 I h fun v u s2 x y H2 I2 rx ry q => ?_)
  obtain ⟨p, rfl, i1, i2, q⟩ := q
  obtain rfl : v = Value.ref p := rx
  obtain ⟨ox, od, J, _⟩ := StX.insC_at I2 i1
  have go := wpAny_mono (run_W (us := [.ref p, u]) (vs := [.ref p, y]) F hr tk I2 (.cons rfl (.cons ry .nil)) q) (fun v s' h => back_of h) fun _ _ e => e
  rcases i2 with ⟨p', rfl, i2⟩ | ⟨T, fo, ro, ty, f1, f2, f3⟩
  · obtain rfl : u = Value.ref p' := ry
    obtain ⟨oy, oe, J2, _⟩ := StX.insC_at I2 i2
    exact bin_same I2.kIn J J2 hb.sf hb.at_ hb.fn go
  · obtain ⟨Pk, kx, hp, _⟩ := kit_of I2 ry ty
    exact bin_type I2.kIn J (kx.ty _ _ I2.kIn hp) hb.sf hb.at_ hb.fn hn f1 f2 f3 go
theorem sub_of_kit {K : PySem.W.Frag} {T : String} {C : Addr} (h : PySem.W.kitOne K (.type T) (.ref C) = some false) : PySem.W.subIn K (.type T) (.ref C) = some false := by
  unfold PySem.W.kitOne at h
  split at h
  · cases h
  · have h' : (if ((PySem.W.clsIn K C).isSome && PySem.W.typeIn K (Value.ref C) == some (Value.type "type")) = true then PySem.W.subIn K (Value.type T) (Value.ref C) else none) = some false := h
    split at h'
    · exact h'
    · cases h'
theorem ex_binX {op : Operator} {C : List D → Out ⊕ Nat → Prop} (Pk : PkBinX G X.prog X.w X.mg X.base c k (PySem.dunder op.info.2) (dunderR op.info.2) C) (tk : Takes X W) (hr : Room j X.A) (hk : k ≤ j) (ha : Ev G (rdE X a) cs (.obj c ds) cs1) (hb : Ev G (rdE X b) cs1 y cs2)
    (hy : (∃ es, y = .obj c es) ∨ ∃ t fo ro, tyN y = some t ∧ PySem.W.findIn X.K (.type t) (PySem.dunder op.info.2) = some fo ∧ PySem.W.findIn X.K (.type t) (dunderR op.info.2) = some ro ∧ PySem.W.subIn X.K (.type t) (.ref (G.cls c)) = some false) (hC : C [.obj c ds, y] o) (ho : OutR R S cs2 o) (hK : G.K = X.K := by rfl) : EvX G W (rdE X (.BinOp a op b pos)) cs R S := by
  obtain ⟨g, hB, hn, F⟩ := Pk
  rw [hK] at hB hn F
  refine ex_of (pe_binW F (hr.mono hk) tk hB hn pe_rd pe_rd) fun F0 σ H Q rl q k6 => ha F0 σ H _ rl fun v F1 H1 st1 r1 q1 => hb F1 σ H1 _ r1 fun u F2 H2 st2 r2 q2 => ?_
  have q1' := Is.mono st2.fsub _ q1
  obtain ⟨p, dx, fs, rfl, a1, a2, a3⟩ := id q1'
  refine ⟨p, rfl, .inr ⟨dx, fs, r2.sub _ _ a1⟩, ?_, end_X (ds := [.obj c ds, y]) (st1.trans st2) rl r2 ⟨_, _, rfl, q1', _, _, rfl, q2, rfl⟩ hC ho q k6⟩
  rcases hy with ⟨es, rfl⟩ | ⟨t, fo, ro, ht, f1, f2, f3⟩
  · obtain ⟨p', dx', fs', rfl, b1, _⟩ := q2
    exact .inl ⟨p', rfl, .inr ⟨dx', fs', r2.sub _ _ b1⟩⟩
  · have ty := tyX_of r2.sub q2 ht
    rw [hK] at ty
    exact .inr ⟨t, fo, ro, ty, f1, f2, f3⟩
end
/-- the built-in kinds have known slots -/
def slotsOk (m mr : Str) : Bool := oddT.all fun t => (PySem.fastLookup t m).isSome && (PySem.fastLookup t mr).isSome
theorem slots_of {K : PySem.W.Frag} {m mr : Str} (h : slotsOk m mr = true) {t : String} (ht : t ∈ oddT) : ∃ fo ro, PySem.W.findIn K (.type t) m = some fo ∧ PySem.W.findIn K (.type t) mr = some ro := by
  have := List.all_eq_true.mp h t ht
  rw [Bool.and_eq_true] at this
  obtain ⟨h1, h2⟩ := this
  obtain ⟨fo, e1⟩ := Option.isSome_iff_exists.mp h1
  obtain ⟨ro, e2⟩ := Option.isSome_iff_exists.mp h2
  exact ⟨fo, ro, e1, e2⟩
/-- what isinstance(y, C) says of a thing that is none -/
def Odd (y : D) : Prop := ∃ t, tyN y = some t ∧ t ∈ oddT
theorem Odd.slots {K : PySem.W.Frag} {G : Gx} {c : Nat} {y : D} {m mr : Str} (h : Odd y) (kf : KitF G c) (hK : G.K = K) (hs : slotsOk m mr = true) : ∃ t fo ro, tyN y = some t ∧ PySem.W.findIn K (.type t) m = some fo ∧ PySem.W.findIn K (.type t) mr = some ro ∧ PySem.W.subIn K (.type t) (.ref (G.cls c)) = some false := by
  obtain ⟨t, h1, h2⟩ := h
  obtain ⟨fo, ro, e1, e2⟩ := slots_of (K := K) hs h2
  have := kf t h2
  rw [hK] at this
  exact ⟨t, fo, ro, h1, e1, e2, sub_of_kit this⟩
section
variable {X : Cx} {G : Gx} {e : Expr} {pos : Pos} {cs cs1 : List Cell} {d : D}
theorem ev_isOdd {ip tp : Pos} {T : Str} {c : Nat} (ha : Ev G (rdE X e) cs d cs1) (h : Odd d) (kf : KitF G c) (m1 : X.mg "isinstance" = none) (g1 : Gl X "isinstance") (m2 : X.mg T = some (.ref (G.cls c))) (g2 : Gl X T) (hK : G.K = X.K := by rfl) (hd : (T == ("__debug__" : Str)) = false := by decide)
    (hs : starEach [e, .Name T tp] X.env = (false, eval e X.env) :: starEach [.Name T tp] X.env := by rfl) (hs2 : starEach [.Name T tp] X.env = (false, eval (.Name T tp) X.env) :: starEach [] X.env := by rfl) (hpl : (backTo pos (starEach [.Name T tp] X.env)).any (·.1) = false := by rfl) :
    Ev G (rdE X (.Call (.Name "isinstance" ip) [e, .Name T tp] [] pos)) cs (.bl false) cs1 := by
  obtain ⟨t, h1, h2⟩ := h
  have := kf t h2
  rw [hK] at this
  exact ev_isF ha h1 this m1 g1 m2 g2 hK hd hs hs2 hpl
end
end Fx

/-! FxI: texts as repr shows them. -/
namespace Fx
open PySem L2 TL
def okS (x : Str) : Prop := ∀ c ∈ x.cps.toList, c < 1114112
theorem okS_lay {x : Str} (h : okS x) : PyData.canLay0 (.str x) = true := by
  show x.cps.all (· < 0x110000) = true
  rw [← Array.all_toList, List.all_eq_true]
  exact fun c hc => decide_eq_true (h c hc)
theorem sh_str {x : Str} (h : okS x) : Sh 0 (10 * x.length + 2) (.str x) :=
  ⟨okS_lay h, rfl, rfl, Nat.le_refl _, StrLaws.reprText_len x fun c hc => Nat.lt_of_lt_of_le (h c hc) (by decide)⟩
theorem okS_app {x y : Str} (h : okS x) (h2 : okS y) : okS (x ++ y) := fun c hc => by
  have e : (x ++ y).cps.toList = x.cps.toList ++ y.cps.toList := tl_append x y
  rw [e] at hc
  rcases List.mem_append.mp hc with z | z
  · exact h c z
  · exact h2 c z
section
variable {X : Cx} {G : Gx} {p : Pos} {cs : List Cell}
/-- {} as a value -/
theorem ev_emp : Ev G (rdE X (.Dict [] [] p)) cs .emp cs :=
  ev_of pe_dnewK fun F σ H Q rl q => fun a ha => by
    have g := grow_know (o := .dK []) rl.sub ha
    exact q (.ref a) _ _ g.stp (rl.grow g) ⟨a, rfl, upd_same⟩
end
end Fx

/-! FxJ: class methods that may raise; kinds of any value; slices, list(), replace of texts; xs.index(y). -/
namespace Fx
open PySem L2 PyProof PyProof.Rows
/-! ### C.m(..) that may raise -/
section
variable {X : Cx} {G : Gx} {W : WX} {e o : Expr} {es : List Expr} {np pos ap op : Pos} {n : Str} {cs cs1 : List Cell} {d z : D} {ds : List D} {c j k : Nat} {R : D → List Cell → Prop} {S : Nat → List Cell → Prop} {r : Out ⊕ Nat}
theorem run_WC {f : Addr} {sp : Sp} {pins : List (Addr × Obj)} {σ : L2.St} {H : Hp} {s : Shared} {Q : VK} {us : List Value} {vs : List V} (F : FnR X.prog X.w X.K X.mg X.base (L2.CX X.prog X.w) k f sp) (hr : Room k X.A) (tk : Takes X W) (I : Inv X pins σ H s) (r : Vals vs us) (h : sp vs H Q (WE W σ)) :
    codeAny (model X.prog X.w) X.A (.call (.ref f) ⟨us, []⟩) (fun r s' => match r with | .ok (.ret v) => EP X pins σ Q v s' | .ok _ => False | .error e => X.xe e s') s := by
  refine codeAny_mono (F X.A X.stack s H us vs Q (WE W σ) hr I.env0 r h) fun r s' hq => ?_
  cases r with
  | error e => exact passAt tk σ pins H s e s' I hq
  | ok fl =>
    cases fl with
    | ret u => exact I.after hq
    | next => exact False.elim hq
    | brk => exact False.elim hq
    | cont => exact False.elim hq
theorem pe_cmethW {m : Str} {C g p : Addr} {mc : Value} {sp : Sp} {ta : TE} {t : TA} {pl : Sem Bool} (he : PE X o ta) (rd : ClX.CRead X.K C mc) (cm : ClX.CMet X.K C mc m p g) (F : FnR X.prog X.w X.K X.mg X.base (L2.CX X.prog X.w) k g sp) (hr : Room k X.A) (tk : Takes X W) (ha : PA X (e :: es) t)
    (hst : starEach (e :: es) X.env = (false, eval e X.env) :: starEach es X.env := by rfl) (hpl : (backTo pos (starEach es X.env)).any (·.1) = false := by rfl)
    (ht : eval (.Call (.Attribute o m ap) (e :: es) [] pos) X.env = (do
      let ov ← eval o X.env
      standAt ap.atName
      let (f, first) ← holding [ov] (getMethod ov m pl)
      callWith pos f first (backTo pos (starEach (e :: es) X.env)) (backToKw pos (keywordEach [] X.env))) := by rfl) :
    PE X (.Call (.Attribute o m ap) (e :: es) [] pos) (fun σ H Q => ta σ H fun x H1 => x = .ref C ∧ t σ H1 fun vs H2 => sp (.ref C :: vs) H2 Q (WE W σ)) := by
  refine ⟨fun pins s σ H Q I h => ?_⟩
  refine PySem.W.methodCall_KW (pl := pl) (thn (he.run pins s σ H _ I h) fun u s1 ⟨x, H1, I1, rx, ex, q⟩ => ?_) ht
  subst ex
  obtain rfl : u = Value.ref C := rx
  refine ClX.getmethcm_ok I1 rd cm fun s2 I2 => ?_
  refine ClX.callwith_cm I2 (ClX.base_none I1 (Nat.le_refl _)) cm.fi (thn (ha.run pos _ s2 σ H1 _ I2 q) fun us s3 ⟨vs, H2, I3, rv, q2⟩ => ⟨⟨ClX.pin_at I3, I3.kIn⟩, ?_⟩) hst hpl
  exact thn (wpAny_call (PySem.W.method_call (ClX.pin_at I3) (run_WC (us := .ref C :: us) (vs := .ref C :: vs) F hr tk I3 (.cons rfl rv) q2))) fun _ _ y => ClX.unpinE y
end
section
variable (G : Gx) (P : Program) (w : World) (mg : Str → Option Value) (base : Heap) (c k : Nat)
def PkClsX (m : Str) (C : List D → Out ⊕ Nat → Prop) : Prop := ∃ mc pa g, ClX.CRead G.K (G.cls c) mc ∧ ClX.CMet G.K (G.cls c) mc m pa g ∧ FnR P w G.K mg base (L2.CX P w) k g (spX G C)
variable {G P w mg base c k}
theorem PkClsX.cls {m : Str} {C : List D → Out ⊕ Nat → Prop} {C0 : List D → Out → Prop} (h : PkClsX G P w mg base c k m C) (hC : ∀ ds o, C0 ds o → C ds (.inl o)) : PkCls G P w mg base c k m C0 := by
  obtain ⟨mc, pa, g, h1, h2, h3⟩ := h
  exact ⟨mc, pa, g, h1, h2, fnR_of_X h3 hC⟩
end
section
variable {X : Cx} {G : Gx} {W : WX} {e o : Expr} {es : List Expr} {np pos ap op : Pos} {n : Str} {cs cs1 : List Cell} {d z : D} {ds : List D} {c j k : Nat} {R : D → List Cell → Prop} {S : Nat → List Cell → Prop} {r : Out ⊕ Nat}
theorem ex_cmeth {nm on : Str} {C : List D → Out ⊕ Nat → Prop} {pl : Sem Bool} (Pk : PkClsX G X.prog X.w X.mg X.base c k nm C) (tk : Takes X W) (hr : Room j X.A) (hk : k ≤ j) (hg : Gl X on) (hm : X.mg on = some (.ref (G.cls c))) (ha : EvV G (rdA X (e :: es)) cs ds cs1) (hC : C (.cls c :: ds) r) (ho : OutR R S cs1 r) (hK : G.K = X.K := by rfl) (hdb : (on == ("__debug__" : Str)) = false := by decide)
    (hst : starEach (e :: es) X.env = (false, eval e X.env) :: starEach es X.env := by rfl) (hpl : (backTo pos (starEach es X.env)).any (·.1) = false := by rfl)
    (ht : eval (.Call (.Attribute (.Name on op) nm ap) (e :: es) [] pos) X.env = (do
      let ov ← eval (.Name on op) X.env
      standAt ap.atName
      let (f, first) ← holding [ov] (getMethod ov nm pl)
      callWith pos f first (backTo pos (starEach (e :: es) X.env)) (backToKw pos (keywordEach [] X.env))) := by rfl) : EvX G W (rdE X (.Call (.Attribute (.Name on op) nm ap) (e :: es) [] pos)) cs R S := by
  obtain ⟨mc, pa, g, h1, h2, h3⟩ := Pk
  rw [hK] at h1 h2 h3
  exact ex_of (pe_cmethW (pe_glob (v := .ref (G.cls c)) hg hm rfl hdb) h1 h2 h3 (hr.mono hk) tk pa_rd hst hpl ht) fun F σ H Q rl q k6 => ⟨rfl, ha F σ H _ rl fun vs F1 H1 st1 r1 q1 => end_X (ds := .cls c :: ds) st1 rl r1 ⟨_, vs, rfl, rfl, q1⟩ hC ho q k6⟩
end
/-! ### kinds -/
def clsT : List String := ["tuple", "str", "int", "bool"]
structure Oc (G : Gx) (c : Nat) : Prop where
  ty : ∀ a dx fs, TyOf G.K (fun b => if b = a then some (.ins (G.cls c) dx fs) else none) (.ref a) (.ref (G.cls c))
  kt : ∀ t ∈ clsT, PySem.W.kitOne G.K (.ref (G.cls c)) (.type t) = some false
def Kn (ns : List Nat) (d : D) : Prop := Odd d ∨ ∃ c ∈ ns, ∃ ds, d = .obj c ds
/-- isinstance(d, T) -/
def isK (T : String) (d : D) : Bool := match tyN d with
  | some t => decide (kitB t T = some true)
  | none => false
def kitsOk : Bool := oddT.all fun t => clsT.all fun T => (kitB t T).isSome
section
variable {X : Cx} {G : Gx} {e : Expr} {pos : Pos} {cs cs1 : List Cell} {d : D} {ns : List Nat}
theorem ev_isK {ip tp : Pos} {T : Str} {T' : String} (ha : Ev G (rdE X e) cs d cs1) (hd : Kn ns d) (ho : ∀ c ∈ ns, Oc G c) (hT : T' ∈ clsT) (m1 : X.mg "isinstance" = none) (g1 : Gl X "isinstance") (m2 : X.mg T = none) (g2 : Gl X T) (hv : bootBuiltins T = some (.type T')) (hK : G.K = X.K := by rfl) (hn : T ≠ "__name__" := by decide) (hdb : (T == ("__debug__" : Str)) = false := by decide)
    (hs : starEach [e, .Name T tp] X.env = (false, eval e X.env) :: starEach [.Name T tp] X.env := by rfl) (hs2 : starEach [.Name T tp] X.env = (false, eval (.Name T tp) X.env) :: starEach [] X.env := by rfl) (hpl : (backTo pos (starEach [.Name T tp] X.env)).any (·.1) = false := by rfl) :
    Ev G (rdE X (.Call (.Name "isinstance" ip) [e, .Name T tp] [] pos)) cs (.bl (isK T' d)) cs1 := by
  rcases hd with ⟨t, h1, h2⟩ | ⟨c, hc, ds, rfl⟩
  · have hk : kitsOk = true := by decide +kernel
    have h3 := List.all_eq_true.mp (List.all_eq_true.mp hk t h2) T' hT
    obtain ⟨k, e1⟩ := Option.isSome_iff_exists.mp h3
    have e2 : isK T' d = k := by
      unfold isK
      rw [h1]
      show decide (kitB t T' = some true) = k
      rw [e1]
      cases k <;> decide
    rw [e2]
    exact ev_isi ha h1 e1 m1 g1 m2 g2 hv hK hn hdb hs hs2 hpl
  · have oc := ho c hc
    have k1 := oc.kt T' hT
    rw [hK] at k1
    exact ev_of (pe_callB call_isi g1 m1 (by decide +kernel) (pa_cons pe_rd (pa_cons (pe_bltn (v := .ty T') g2 m2 hv rfl hn hdb) pa_nil hs2) hs) (by decide) (by decide) hs hpl) fun F σ H Q rl q => ha F σ H _ rl fun v F1 H1 st1 r1 q1 => by
      obtain ⟨a, dx, fs, rfl, g1, _⟩ := q1
      refine ⟨.ref a, .ty T', _, _, false, rfl, .ty T', .base ?_, k1, q _ F1 H1 st1 r1 rfl⟩
      have z := oc.ty a dx fs
      rw [hK] at z
      cases z with
      | ins e cl ha hn htk hm => exact .ins (r1.sub _ _ g1) cl ha hn htk hm
end
/-! ### texts -/
section
variable {X : Cx} {G : Gx} {e : Expr} {es : List Expr} {pos : Pos} {cs cs1 cs2 cs3 : List Cell} {x : Str}
theorem ev_sliceS {lo hi : Option Expr} {p2 : Pos} {tl th : TO} {ol oh : Option Int} (hl : PO X lo tl) (hh : PO X hi th) (h : Ev G (rdE X e) cs (.str x) cs1) (hz : x.length ≤ 16777216) (h1 : EvS G tl cs1 ol cs2) (h2 : EvS G th cs2 oh cs3) :
    Ev G (rdE X (.Subscript e (.Slice lo hi none p2) pos)) cs (.str (cutS x ol oh)) cs3 :=
  ev_of (pe_slice sl_str pe_rd hl hh) fun F σ H Q rl q => h F σ H _ rl fun v F1 H1 st1 r1 q1 => h1 F1 σ H1 _ r1 fun F2 H2 st2 r2 => h2 F2 σ H2 _ r2 fun F3 H3 st3 r3 => by
    cases q1
    exact ⟨x, rfl, by rw [sizeLine_eq]; exact hz, q _ F3 H3 ((st1.trans st2).trans st3) r3 rfl⟩
end
theorem okS_cut {x : Str} (h : okS x) (lo hi : Option Int) : okS (cutS x lo hi) := fun c hc => by
  unfold cutS at hc
  refine h c ?_
  have hc' : c ∈ ((x.cps.toList.drop (HT.sIx x.length 0 lo)).take (HT.sIx x.length x.length hi - HT.sIx x.length 0 lo)) := by simpa using hc
  exact List.mem_of_mem_drop (List.mem_of_mem_take hc')
end Fx

/-! FxK: list(text), text.replace(..), xs.index(y). -/
namespace Fx
open PySem L2 PyProof PyProof.Rows
section
variable {X : Cx}
theorem cr_listS (hc : X.calm = true) : CallR X (.type "list") (fun xs H Q => ∃ x : Str, xs = [.str x] ∧ x.length ≤ 16777216 ∧ ∀ p, H p = none → Q (.ref p) (upd H p (.lst (x.cps.toList.map fun c => V.str (sgn c))))) := by
  intro pins s σ H xs us Q I r h
  obtain ⟨x, rfl, hz, q⟩ := h
  obtain ⟨u, rfl, t, rfl⟩ := vals1 r
  have hz2 : x.cps.size ≤ sizeLine := by rw [sizeLine_eq]; exact hz
  refine call_list_str (I.ok.hd hc) x t (fun h' tk acc' c' kp e it => ?_) hz2
  have hv : Vals (x.cps.toList.map fun c => V.str (sgn c)) acc'.toList := by
    refine vals_of_at (by rw [List.length_map, Array.length_toList, Array.length_toList, it.1]) fun j y u hy hu => ?_
    rw [List.getElem?_map] at hy
    rw [Array.getElem?_toList] at hu
    obtain ⟨c, tk2, e1, rfl⟩ := it.2 j u hu
    rw [Array.getElem?_toList, e1] at hy
    cases hy
    exact ⟨tk2, rfl⟩
  refine ⟨.ref s.heap.objs.size, _, I.laid (t' := tk) kp (Nat.le_refl _) (show ObjOk X.prog X.w _ h' _ (.lst _) from ⟨?_, acc'.toList, c', hv, by simpa using e⟩), rfl, q _ (I.hok.fresh (Nat.le_refl _))⟩
  rw [List.length_map, Array.length_toList]
  exact hz2
end
section
variable {X : Cx} {G : Gx} {e o : Expr} {es : List Expr} {pos ap p : Pos} {cs cs1 cs2 : List Cell} {x y z : Str} {d : D} {ds xs : List D}
theorem evn_listS (ha : Ev G (rdE X e) cs (.str x) cs1) (hz : x.length ≤ 16777216) (hc : X.calm = true) (hm : X.mg "list" = none) (hg : Gl X "list") (hs : starEach [e] X.env = (false, eval e X.env) :: starEach [] X.env := by rfl) :
    EvN G (rdE X (.Call (.Name "list" p) [e] [] pos)) cs (sgns x) cs1 :=
  evn_callTy (cr_listS hc) (fun F H vs Q sm h q => by
    obtain ⟨v, r, rfl, h1, h3⟩ := h
    cases h3
    cases h1
    refine ⟨x, rfl, hz, fun p hp => q p _ hp ?_⟩
    unfold sgns
    have := isAll_strs (G := G) (F := F) (x.cps.toList.map sgn)
    rw [List.map_map, List.map_map] at this
    exact this) (evv_cons ha evv_nil hs) hg hm boot_list (by decide) (by decide) hs (by rfl)
/-- xs.index(y) -/
theorem ev_index {j : Nat} {z : D} (ho : Ev G (rdE X o) cs (.lst xs) cs1) (he : Ev G (rdE X e) cs1 d cs2) (fx : fine (.lst xs)) (fd : fine d) (hz : xs[j]? = some z) (hj : eqD z d = true) (hno : ∀ (m : Nat) (z' : D), m < j → xs[m]? = some z' → eqD z' d = false)
    (hpe : ∀ {to : TE} {t : TA}, PE X o to → PA X [e] t → PE X (.Call (.Attribute o "index" ap) [e] [] pos) (tBM X.K "list" (rIndexD X.K) to t)) (hK : G.K = X.K := by rfl) (hs : starEach [e] X.env = (false, eval e X.env) :: starEach [] X.env := by rfl) :
    Ev G (rdE X (.Call (.Attribute o "index" ap) [e] [] pos)) cs (.int (j : Nat)) cs2 :=
  ev_of (hpe pe_rd (pa_cons pe_rd pa_nil hs)) fun F σ H Q rl q => ho F σ H _ rl fun v F1 H1 st1 r1 q1 => by
    have q1' := q1
    obtain ⟨a, vs, rfl, h1, h2⟩ := q1
    refine ⟨.inl ⟨rfl, vs, SqL.of (r1.sub _ _ h1)⟩, he F1 σ H1 _ r1 fun w F2 H2 st2 r2 q2 => ?_⟩
    have d1 := dp_of r2.sub _ _ (Is.mono st2.fsub _ q1') fx.1
    have d2 := dp_of r2.sub _ _ q2 fd.1
    rw [hK] at d1 d2
    have tp : ∀ (l : List D) (m : Nat), (toPys l)[m]? = l[m]?.map toPy := by
      intro l
      induction l with
      | nil => intro m; rfl
      | cons a l ih =>
        intro m
        cases m with
        | zero => rfl
        | succ m => exact ih m
    refine ⟨a, w, toPy d, toPys xs, j, toPy z, rfl, rfl, d1, d2, fx.shaped, fd.shaped, by rw [tp, hz]; rfl, hj, fun m z' hm hz' => ?_, q _ F2 H2 (st1.trans st2) r2 rfl⟩
    rw [tp] at hz'
    cases e2 : xs[m]? with
    | none => rw [e2] at hz'; cases hz'
    | some u =>
      rw [e2] at hz'
      cases hz'
      exact hno m u hm e2
end
section
variable {X : Cx} {G : Gx} {e1 e2 e3 e4 e5 : Expr} {es : List Expr} {cs c1 c2 c3 c4 c5 c6 : List Cell} {x1 x2 x3 x4 x5 : D} {ds : List D}
/-- five arguments at once (each nesting of evv_cons doubles the elaborator's work) -/
theorem evv_c5 (h1 : Ev G (rdE X e1) cs x1 c1) (h2 : Ev G (rdE X e2) c1 x2 c2) (h3 : Ev G (rdE X e3) c2 x3 c3) (h4 : Ev G (rdE X e4) c3 x4 c4) (h5 : Ev G (rdE X e5) c4 x5 c5) (h6 : EvV G (rdA X es) c5 ds c6)
    (s1 : starEach (e1 :: e2 :: e3 :: e4 :: e5 :: es) X.env = (false, eval e1 X.env) :: starEach (e2 :: e3 :: e4 :: e5 :: es) X.env := by rfl) (s2 : starEach (e2 :: e3 :: e4 :: e5 :: es) X.env = (false, eval e2 X.env) :: starEach (e3 :: e4 :: e5 :: es) X.env := by rfl) (s3 : starEach (e3 :: e4 :: e5 :: es) X.env = (false, eval e3 X.env) :: starEach (e4 :: e5 :: es) X.env := by rfl) (s4 : starEach (e4 :: e5 :: es) X.env = (false, eval e4 X.env) :: starEach (e5 :: es) X.env := by rfl) (s5 : starEach (e5 :: es) X.env = (false, eval e5 X.env) :: starEach es X.env := by rfl) :
    EvV G (rdA X (e1 :: e2 :: e3 :: e4 :: e5 :: es)) cs (x1 :: x2 :: x3 :: x4 :: x5 :: ds) c6 := evv_cons h1 (evv_cons h2 (evv_cons h3 (evv_cons h4 (evv_cons h5 h6 s5) s4) s3) s2) s1
end
/-! ### behind a written text a token is out -/
def rdET (X : Cx) (e : Expr) : TE := fun σ H Q => ∀ (pins : List (Addr × Obj)) (s : Shared), 1 ≤ s.toks → Inv X pins σ H s → wpAny (model X.prog X.w) X.A (eval e X.env) (EP X pins σ Q) X.xe s
def rdAT (X : Cx) (es : List Expr) : TA := fun σ H Q => ∀ (pos : Pos) (pins : List (Addr × Obj)) (s : Shared), 1 ≤ s.toks → Inv X pins σ H s → wpAny (model X.prog X.w) X.A (spliced (backTo pos (starEach es X.env))) (AP X pins σ Q) X.xe s
section
variable {X : Cx} {G : Gx} {e o : Expr} {es : List Expr} {pos ap p : Pos} {cs cs1 cs2 : List Cell} {x y z : Str} {d : D} {ds xs : List D}
theorem evt_ev (h : Ev G (rdE X e) cs d cs1) : Ev G (rdET X e) cs d cs1 := fun F σ H Q rl q pins s _ I => h F σ H Q rl q pins s I
theorem evvt_ev (h : EvV G (rdA X es) cs ds cs1) : EvV G (rdAT X es) cs ds cs1 := fun F σ H Q rl q pos pins s _ I => h F σ H Q rl q pos pins s I
theorem evvt_cons (h : Ev G (rdET X e) cs d cs1) (h2 : EvV G (rdAT X es) cs1 ds cs2) (hs : starEach (e :: es) X.env = (false, eval e X.env) :: starEach es X.env := by rfl) : EvV G (rdAT X (e :: es)) cs (d :: ds) cs2 := fun F σ H Q rl q pos pins s h0 I => by
  rw [hs]
  refine Calls.spliced_cons ?_
  have z := h F σ H (fun v H1 => ∃ F1, Stp F H (Owns cs) F1 H1 (Owns cs1) ∧ Rel G F1 σ H1 cs1 ∧ Is G F1 d v) rl (fun v F1 H1 st r i => ⟨F1, st, r, i⟩) pins s h0 I
  refine wpAny_mono (PySem.wpAny_toks z) (fun v s1 zz => ?_) fun _ _ zz => zz.2
  obtain ⟨ht, x, H1, I1, rx, F1, st1, r1, q1⟩ := zz
  refine wpAny_mono (h2 F1 σ H1 _ r1 (fun vs F2 H2 st2 r2 q2 => q (x :: vs) F2 H2 (st1.trans st2) r2 ⟨x, vs, rfl, Is.mono st2.fsub d q1, q2⟩) pos pins s1 (Nat.le_trans h0 ht) I1) (fun us s2 zz => ?_) fun _ _ zz => zz
  obtain ⟨vs, H2, I2, rv, q2⟩ := zz
  exact ⟨x :: vs, H2, I2, .cons rx rv, q2⟩
/-- x + "..", then the rest with a token out -/
theorem evv_tok {a : Expr} {c : Str} {jj : Nat} {cp : Pos} (h : Ev G (rdE X a) cs (.str x) cs1) (hz : x.length + c.length ≤ 10000000) (h2 : EvV G (rdAT X es) cs1 ds cs2) (hs : starEach (.BinOp a .Add (.Constant (.str c) jj cp) p :: es) X.env = (false, eval (.BinOp a .Add (.Constant (.str c) jj cp) p) X.env) :: starEach es X.env := by rfl) :
    EvV G (rdA X (.BinOp a .Add (.Constant (.str c) jj cp) p :: es)) cs (.str (x ++ c) :: ds) cs2 := fun F σ H Q rl q pos pins s I => by
  rw [hs]
  refine Calls.spliced_cons ?_
  refine wpAny_BinOp ?_
  have z := h F σ H (fun v H1 => ∃ F1, Stp F H (Owns cs) F1 H1 (Owns cs1) ∧ Rel G F1 σ H1 cs1 ∧ Is G F1 (.str x) v) rl (fun v F1 H1 st r i => ⟨F1, st, r, i⟩) pins s I
  refine thn z fun v s1 ⟨y, H1, I1, ry, F1, st1, r1, q1⟩ => ?_
  cases q1
  refine Calls.Constant_str ?_
  have I2 : Inv X pins σ H1 { s1 with toks := s1.toks + 1 } := I1.tok _
  have w := op_add_str (X := X) pins { s1 with toks := s1.toks + 1 } σ H1 (.str x) (.str c) v (.str c s1.toks) (fun u H2 => u = .str (x ++ c) ∧ H2 = H1) I2 ry ⟨_, rfl⟩ ⟨x, c, rfl, rfl, by rw [sizeLine_eq]; omega, rfl, rfl⟩
  refine wpAny_mono (PySem.wpAny_toks w) (fun u s2 zz => ?_) fun _ _ zz => zz.2
  obtain ⟨ht, x2, H2, I3, rx2, rfl, rfl⟩ := zz
  refine wpAny_mono (h2 F1 σ H2 _ r1 (fun vs F2 H3 st2 r2 q2 => q (.str (x ++ c) :: vs) F2 H3 (st1.trans st2) r2 ⟨_, vs, rfl, rfl, q2⟩) pos pins s2 (Nat.le_trans (Nat.le_add_left 1 _) ht) I3) (fun us s3 zz => ?_) fun _ _ zz => zz
  obtain ⟨vs, H3, I4, rv, q2⟩ := zz
  exact ⟨_ :: vs, H3, I4, .cons rx2 rv, q2⟩
/-- e.replace("..", "..") -/
theorem evt_repl {jj k : Nat} {c0 c1 : Pos} (h : Ev G (rdE X e) cs (.str x) cs1) (hb : x.length + (x.length + 1) * z.length ≤ 16777216) (hyz : (y == z) = false := by decide)
    (hst : starEach [.Constant (.str y) jj c0, .Constant (.str z) k c1] X.env = [(false, eval (.Constant (.str y) jj c0) X.env), (false, eval (.Constant (.str z) k c1) X.env)] := by rfl)
    (hbase : attributeBase e "replace" X.env (eval e X.env) = eval e X.env := by rfl) (hline : (ap.endLine == pos.line) = true := by rfl) :
    Ev G (rdET X (.Call (.Attribute e "replace" ap) [.Constant (.str y) jj c0, .Constant (.str z) k c1] [] pos)) cs (.str (Txt.replace x y z)) cs1 := fun F σ H Q rl q pins s h0 I =>
  CwR.pet_replC (to := rdE X e) pe_rd hyz hst hbase hline pins s σ H Q h0 I (h F σ H _ rl fun v F1 H1 st1 r1 q1 => by
    cases q1
    exact ⟨x, rfl, hb, q _ F1 H1 st1 r1 rfl⟩)
end
end Fx

/-! MV: signs and lengths of texts that are cut and joined. -/
namespace Mu
open PySem TL StrLaws Mt Fx L2
theorem okS_mem {x : Str} : okS x ↔ ∀ c ∈ tl x, c < 1114112 := Iff.rfl
theorem spl_mem (s : Nat) : ∀ (l acc p : List Nat), p ∈ spl [s] 0 acc l → ∀ c ∈ p, c ∈ acc ∨ c ∈ l
  | [], acc, p, h, c, hc => by rw [spl_nil] at h; rw [List.mem_singleton.mp h] at hc; exact .inl hc
  | a :: r, acc, p, h, c, hc => by
    by_cases e : a = s
    · rw [spl_hit (by rw [pre1]; exact decide_eq_true e)] at h
      rcases List.mem_cons.mp h with rfl | h
      · exact .inl hc
      · rcases spl_mem s r [] p h c hc with z | z
        · cases z
        · exact .inr (List.mem_cons_of_mem _ z)
    · rw [spl_miss (by rw [pre1]; exact decide_eq_false e)] at h
      rcases spl_mem s r _ p h c hc with z | z
      · rcases List.mem_append.mp z with z | z
        · exact .inl z
        · rw [List.mem_singleton.mp z]; exact .inr (List.mem_cons_self ..)
      · exact .inr (List.mem_cons_of_mem _ z)
section
variable {x y z : Str} {s : Nat}
theorem okS_split (ey : tl y = [s]) (hk : y.cps.all (· < 256) = true) (hx : okS x) (h : z ∈ Txt.split x y) : okS z := fun c hc => by
  have h1 : tl z ∈ spl [s] 0 [] (tl x) := by rw [← split_tl ey hk]; exact List.mem_map_of_mem h
  rcases spl_mem s _ _ _ h1 c hc with q | q
  · cases q
  · exact hx c q
end
/-- the lengths of texts, one more for each -/
def tot (ls : List Str) : Nat := (ls.map fun z => z.length + 1).sum
theorem tot_nil : tot [] = 0 := rfl
theorem tot_cons (z : Str) (ls : List Str) : tot (z :: ls) = z.length + 1 + tot ls := rfl
theorem tot_app (a b : List Str) : tot (a ++ b) = tot a + tot b := by
  unfold tot
  rw [List.map_append, List.sum_append]
theorem tot_mem {z : Str} : ∀ {ls : List Str}, z ∈ ls → z.length + 1 ≤ tot ls
  | [], h => nomatch h
  | a :: ls, h => by
    rw [tot_cons]
    rcases List.mem_cons.mp h with rfl | h
    · omega
    · have := tot_mem h
      omega
theorem tot_take (ls : List Str) (n : Nat) : tot (ls.take n) ≤ tot ls := by
  have := tot_app (ls.take n) (ls.drop n)
  rw [List.take_append_drop] at this
  omega
theorem tot_drop (ls : List Str) (n : Nat) : tot (ls.drop n) ≤ tot ls := by
  have := tot_app (ls.take n) (ls.drop n)
  rw [List.take_append_drop] at this
  omega
theorem tot_len (ls : List Str) : ls.length ≤ tot ls := by
  induction ls with
  | nil => exact Nat.le_refl _
  | cons a ls ih => rw [tot_cons, List.length_cons]; omega
theorem tot_sum (ls : List Str) : (ls.map (·.length)).sum + ls.length = tot ls := by
  induction ls with
  | nil => rfl
  | cons a ls ih => rw [tot_cons, List.map_cons, List.sum_cons, List.length_cons]; omega
theorem join_tot {y : Str} {s : Nat} (ey : tl y = [s]) : ∀ ls : List Str, ls ≠ [] → (Str.join y ls).length + 1 = tot ls
  | [], h => absurd rfl h
  | [z], _ => by
    rw [len_tl, tl_join]
    show (joinL (tl y) [tl z]).length + 1 = _
    rw [tot_cons, tot_nil, len_tl]
    rfl
  | z :: a :: ls, _ => by
    have ih := join_tot ey (a :: ls) (by simp)
    rw [len_tl, tl_join] at ih ⊢
    rw [List.map_cons, joinL_cons _ _ (by simp), tot_cons, len_tl, ey]
    rw [ey] at ih
    simp only [List.length_append, List.length_cons, List.length_nil] at *
    omega
theorem join_len1 {y : Str} {s : Nat} (ey : tl y = [s]) (ls : List Str) : (Str.join y ls).length ≤ tot ls := by
  cases ls with
  | nil => rw [len_tl, tl_join]; exact Nat.le_refl _
  | cons a ls => have := join_tot ey (a :: ls) (by simp); omega
theorem tot_split {x y : Str} {s : Nat} (ey : tl y = [s]) (hk : y.cps.all (· < 256) = true) : tot (Txt.split x y) = x.length + 1 := by
  have h1 := join_tot ey (Txt.split x y) (split_ne ey hk)
  rw [join_split1 ey hk] at h1
  exact h1.symm
theorem okS_join {y : Str} (hy : okS y) : ∀ {ls : List Str}, (∀ z ∈ ls, okS z) → okS (Str.join y ls) := fun {ls} h c hc => by
  have hc' : c ∈ tl (Str.join y ls) := hc
  rw [tl_join] at hc'
  have : ∀ (l : List (List Nat)), (∀ p ∈ l, ∀ c ∈ p, c < 1114112) → ∀ c ∈ joinL (tl y) l, c < 1114112 := by
    intro l
    induction l with
    | nil => intro _ c hc; cases hc
    | cons p l ih =>
      intro hp c hc
      by_cases e : l = []
      · subst e
        exact hp p (List.mem_cons_self ..) c (by simpa [joinL] using hc)
      · rw [joinL_cons _ _ e] at hc
        rcases List.mem_append.mp hc with q | q
        · exact hp p (List.mem_cons_self ..) c q
        · rcases List.mem_append.mp q with q | q
          · exact hy c q
          · exact ih (fun p' hp' => hp p' (List.mem_cons_of_mem _ hp')) c q
  refine this _ (fun p hp c hc => ?_) c hc'
  obtain ⟨z, hz, rfl⟩ := List.mem_map.mp hp
  exact h z hz c hc
theorem okS_repl {x z : Str} (hx : okS x) (hz : okS z) : okS (Txt.replace x " " z) := by
  have e : (" " : Str) = ⟨#[32]⟩ := by decide +kernel
  rw [e, replace_one, ← e]
  exact okS_join hz fun p hp => okS_split tl_sp sp256 hx hp
theorem cut_ends {x : Str} : decide (cutS x (some (-1)) none = "\n") = Txt.endswith x "\n" := by
  have h1 : ("\n" : Str).length = 1 := by decide +kernel
  rw [Bool.eq_iff_iff, decide_eq_true_eq]
  have ec : tl (cutS x (some (-1)) none) = ((tl x).drop ((tl x).length - 1)).take ((tl x).length - ((tl x).length - 1)) := by
    unfold cutS
    show ((x.cps.toList.drop (HT.sIx x.length 0 (some (-1)))).take (HT.sIx x.length x.length none - HT.sIx x.length 0 (some (-1)))) = _
    have e1 : HT.sIx x.length 0 (some (-1)) = (tl x).length - 1 := by
      rw [← len_tl]
      unfold HT.sIx
      simp only []
      rw [if_pos (by decide)]
      omega
    rw [e1]
    show List.take (x.length - _) _ = _
    rw [len_tl]
  constructor
  · intro h
    have h2 : tl (cutS x (some (-1)) none) = [10] := by rw [h, tl_nl]
    rw [ec] at h2
    have hl : 1 ≤ (tl x).length := by
      have := congrArg List.length h2
      simp only [List.length_take, List.length_drop, List.length_cons, List.length_nil] at this
      omega
    unfold Txt.endswith
    rw [Bool.and_eq_true]
    refine ⟨decide_eq_true (by rw [h1, len_tl]; omega), ?_⟩
    rw [subAt_eq, h1, len_tl]
    show (((tl x).drop ((tl x).length - 1)).take 1 == tl ("\n" : Str)) = true
    rw [tl_nl]
    have : (tl x).length - ((tl x).length - 1) = 1 := by omega
    rw [this] at h2
    rw [h2]
    rfl
  · intro h
    obtain ⟨p, hp⟩ := ends_nl h
    refine ext_tl ?_
    rw [ec, tl_nl, hp]
    simp
end Mu

/-! MW: what any text says of a table. -/
namespace Mu
open PySem TL StrLaws Mt Fx L2 NumText
/-- up to four figures -/
def digW (x : Str) : Bool := decide (1 ≤ x.length) && (decide (x.length ≤ 4) && (tl x).all fun c => decide (c ∈ tl ("0123456789" : Str)))
def numW (x : Str) : Int := if digW x = true then ((digitsVal (tl x) : Nat) : Int) else -1
theorem digW_spec {x : Str} (h : digW x = true) : 1 ≤ (tl x).length ∧ (tl x).length ≤ 4 ∧ AllDigits (tl x) := by
  unfold digW at h
  rw [Bool.and_eq_true, Bool.and_eq_true] at h
  obtain ⟨h1, h2, h3⟩ := h
  rw [← len_tl]
  refine ⟨of_decide_eq_true h1, of_decide_eq_true h2, fun c hc => ?_⟩
  have := of_decide_eq_true (List.all_eq_true.mp h3 c hc)
  rw [digits_tl] at this
  simp at this
  omega
theorem foldl_bound : ∀ (l : List Nat) (a n : Nat), AllDigits l → a < 10 ^ n → l.foldl (fun acc c => acc * 10 + (c - 48)) a < 10 ^ (n + l.length)
  | [], a, n, _, h => h
  | c :: l, a, n, hd, h => by
    have hc := hd c (List.mem_cons_self ..)
    have : a * 10 + (c - 48) < 10 ^ (n + 1) := by
      rw [Nat.pow_succ]
      omega
    have ih := foldl_bound l (a * 10 + (c - 48)) (n + 1) (fun d hd' => hd d (List.mem_cons_of_mem _ hd')) this
    rw [List.foldl_cons, List.length_cons]
    have e : n + 1 + l.length = n + (l.length + 1) := by omega
    rw [e] at ih
    exact ih
theorem numW_val {x : Str} (h : digW x = true) : isVal (numW x) ∧ intText? x = some (numW x) := by
  obtain ⟨h1, h2, h3⟩ := digW_spec h
  have hb : digitsVal (tl x) < 10 ^ (0 + (tl x).length) := foldl_bound (tl x) 0 0 h3 (by decide)
  have hb2 : digitsVal (tl x) < 10000 := by
    refine Nat.lt_of_lt_of_le hb ?_
    have : (tl x).length = 1 ∨ (tl x).length = 2 ∨ (tl x).length = 3 ∨ (tl x).length = 4 := by omega
    rcases this with e | e | e | e <;> rw [e] <;> decide
  unfold numW
  rw [if_pos h]
  refine ⟨⟨by omega, by omega⟩, intText_digits h3 (fun e => ?_) (by rw [len_tl]; omega)⟩
  have : tl x = [] := e
  rw [this] at h1
  exact absurd h1 (by decide)
theorem numW_ge {x : Str} (h : 0 ≤ numW x) : digW x = true := by
  cases e : digW x with
  | true => rfl
  | false =>
    unfold numW at h
    rw [if_neg (by rw [e]; decide)] at h
    exact absurd h (by decide)
theorem digW_nS {v : Int} (h : isVal v) : digW (nS v) = true ∧ numW (nS v) = v := by
  have hl := len_val h
  have hd : digW (nS v) = true := by
    unfold digW
    rw [Bool.and_eq_true, Bool.and_eq_true]
    exact ⟨decide_eq_true hl.1, decide_eq_true hl.2, List.all_eq_true.mpr fun c hc => decide_eq_true (sign_val h hc)⟩
  refine ⟨hd, ?_⟩
  have h1 := (numW_val hd).2
  rw [int_val h] at h1
  exact (Option.some.inj h1).symm
/-- a word that a table writes -/
def canW (x : Str) : Bool := digW x && decide (nS (numW x) = x)
theorem canW_nS {v : Int} (h : isVal v) : canW (nS v) = true := by
  obtain ⟨h1, h2⟩ := digW_nS h
  unfold canW
  rw [h1, h2]
  simp
def rowW (l : Str) : List Int := (Txt.split l " ").map numW
def dueB (w : Int) (x : Str) : Option (List (List Int)) := if (decide (x = "") || Txt.endswith x "\n") = true ∧ (linesR x).length ≤ 400 ∧ ∀ l ∈ linesR x, ((Txt.split l " ").length : Int) = w ∧ ∀ y ∈ Txt.split l " ", canW y = true then some ((linesR x).map rowW) else none
theorem can_join {l : Str} (h : ∀ y ∈ Txt.split l " ", canW y = true) : rwS (rowW l) = l := by
  unfold rwS rowW
  rw [List.map_map]
  have e : (Txt.split l " ").map (nS ∘ numW) = Txt.split l " " := by
    have : (Txt.split l " ").map (nS ∘ numW) = (Txt.split l " ").map id := List.map_congr_left fun y hy => by
      have := h y hy
      unfold canW at this
      rw [Bool.and_eq_true] at this
      exact of_decide_eq_true this.2
    rw [this, List.map_id]
  rw [e, join_split1 tl_sp sp256]
theorem dueB_ok {w : Int} {x : Str} {rows : List (List Int)} (h : dueB w x = some rows) : Rws w rows ∧ rwsT rows = x ∧ rows = (linesR x).map rowW := by
  unfold dueB at h
  split at h
  · rename_i h'
    obtain ⟨h1, h2, h3⟩ := h'
    cases h
    refine ⟨⟨by rw [List.length_map]; exact h2, fun r hr => ?_⟩, ?_, rfl⟩
    · obtain ⟨l, hl, rfl⟩ := List.mem_map.mp hr
      obtain ⟨g1, g2⟩ := h3 l hl
      refine ⟨by unfold rowW; rw [List.length_map]; exact g1, fun v hv => ?_⟩
      obtain ⟨y, hy, rfl⟩ := List.mem_map.mp hv
      have := g2 y hy
      unfold canW at this
      rw [Bool.and_eq_true] at this
      exact (numW_val this.1).1
    · unfold rwsT
      rw [linesT_join, List.map_map]
      have e : (linesR x).map (rwS ∘ rowW) = linesR x := by
        have : (linesR x).map (rwS ∘ rowW) = (linesR x).map id := List.map_congr_left fun l hl => can_join (h3 l hl).2
        rw [this, List.map_id]
      rw [e, ← split_nl h1, join_eq, join_split1 tl_nl nl256]
  · cases h
/-- the program reads the rows first and then compares the texts -/
theorem dueB_of {w : Int} (h1 : 1 ≤ w) {x : Str} (h0 : (decide (x = "") || Txt.endswith x "\n") = true) (hr : Rws w ((linesR x).map rowW)) : dueB w x = if rwsT ((linesR x).map rowW) = x then some ((linesR x).map rowW) else none := by
  have hl : (linesR x).length ≤ 400 := by have := hr.1; rwa [List.length_map] at this
  split
  · rename_i e
    unfold dueB
    rw [if_pos]
    refine ⟨h0, hl, fun l hl => ?_⟩
    have hrow := hr.row _ (List.mem_map_of_mem (f := rowW) hl)
    refine ⟨by have := hrow.len; unfold rowW at this; rwa [List.length_map] at this, ?_⟩
    have hsp := split_rows hr
    rw [e, split_nl h0] at hsp
    have hsp2 := List.append_cancel_right hsp
    rw [List.map_map] at hsp2
    obtain ⟨i, hi⟩ := List.getElem?_of_mem hl
    have h3 : ((linesR x).map (rwS ∘ rowW))[i]? = some l := by rw [← hsp2]; exact hi
    rw [List.getElem?_map, hi] at h3
    have h4 : rwS (rowW l) = l := Option.some.inj h3
    have h5 := split_row hrow h1
    rw [h4] at h5
    intro y hy
    rw [h5] at hy
    obtain ⟨v, hv, rfl⟩ := List.mem_map.mp hy
    exact canW_nS (hrow.val v hv)
  · rename_i e
    cases hd : dueB w x with
    | none => rfl
    | some rows =>
      obtain ⟨_, h2, h3⟩ := dueB_ok hd
      rw [h3] at h2
      exact absurd h2 e
end Mu

/-! if and for in a generator's body. -/
namespace Gf
open PySem L2
section
variable {X : Cx}
def tGIf (c : TT) (a b : TGn) : TGn := fun D ys σ H => c σ H fun k H1 => if k = true then a D ys σ H1 else b D ys σ H1
theorem gs_if {test : Expr} {s1 s2 : List Stmt} {pos : Pos} {tc : TT} {t1 t2 : TGn} (hc : PT X test tc) (h1 : GSs X s1 t1) (h2 : GSs X s2 t2) : GS X (.If test s1 s2 pos) (tGIf tc t1 t2) := by
  refine ⟨fun A S ip R n ys s₀ c fs K J gd lv s σ H D g hn k hI ht => ?_⟩
  rw [exec_If]
  refine seg_bind_wrap (wpAny_standAt (seg_bind_wrap ?_))
  rw [g.over]
  obtain ⟨acc, cc, r, I⟩ := hI
  refine wpAny_mono (hc.run _ s σ H _ I ht) (fun b s' hb => ?_) fun x s' hx => k.exc n s₀ x s' hx
  obtain ⟨H2, I2, q2⟩ := hb
  cases b with
  | true =>
    rw [if_pos rfl] at q2
    exact h1.run A S ip R n ys s₀ c fs K J gd lv s' σ H2 D g hn k ⟨acc, cc, r, I2⟩ q2
  | false =>
    rw [if_neg Bool.false_ne_true] at q2
    exact h2.run A S ip R n ys s₀ c fs K J gd lv s' σ H2 D g hn k ⟨acc, cc, r, I2⟩ q2

/-- an exception in a turn -/
abbrev Hx (env : Env) (x : Value) : Sem PySem.Fin := (do noteFrame x env; theTreesLotGoes x : Sem Unit).wrap (fun _ => .raise x) .raise id id
abbrev Kf (tg : Expr) (it : Value) (body : List Stmt) (env : Env) : Flow → Sem PySem.Fin
  | .next => .pure (.again (.forLoop tg it body [] env))
  | .cont => .pure (.again (.forLoop tg it body [] env))
  | .brk => .pure (.done .next)
  | .ret v => .pure (.done (.ret v))
section
variable {prog : Program} {w : World} {A : Around} {R : GenEnd} {Y : Protocol} {n : Nat} {s₀ : Shared} {fs : List Frame} {s : Shared} {env : Env} {tg : Expr} {it : Value} {body : List Stmt}
abbrev Lp (tg : Expr) (it : Value) (body : List Stmt) (env : Env) : Code := .forLoop tg it body [] env
theorem seg_forLoop (h : wpAny (model prog w) (A.over (Lp tg it body env) fs) (pyNext it) (fun r s1 => match r with
      | none => Seg (model prog w) A R Y n s₀ (.block [] env) ((model prog w).den (.block [] env)) fs s1
      | some v => wpAny (model prog w) (A.over (Lp tg it body env) fs) (letOwnedTupleGo tg it v) (fun _ s2 => wpAny (model prog w) (A.over (Lp tg it body env) fs) (assign tg env v) (fun _ s3 =>
          Seg (model prog w) A R Y n s₀ (Lp tg it body env) ((execs body env).wrap (Kf tg it body env) (Hx env) id id) fs s3) (fun x s' => Seg (model prog w) A R Y n s₀ (Lp tg it body env) (Hx env x) fs s') s2) (fun x s' => Seg (model prog w) A R Y n s₀ (Lp tg it body env) (Hx env x) fs s') s1)
      (fun x s' => Seg (model prog w) A R Y n s₀ (Lp tg it body env) (Hx env x) fs s') s) :
    Seg (model prog w) A R Y n s₀ (Lp tg it body env) ((model prog w).den (Lp tg it body env)) fs s := by
  have eq1 : ∀ x, ((do noteFrame x env; theTreesLotGoes x : Sem Unit).bind fun _ => (.raise x : Sem PySem.Fin)) = Hx env x := fun x => Sem.bind_eq_wrap _ _
  show Seg _ A R Y n s₀ _ ((forTurn tg it body [] env).onRaise (fun x => do noteFrame x env; theTreesLotGoes x)) fs s
  unfold forTurn
  rw [Sem.onRaise_eq_wrap]
  refine seg_bind_wrap (wpAny_standAt (seg_bind_wrap (wpAny_onRaise (wpAny_mono h (fun r s1 h1 => ?_) fun x s' hx => wpAny_standAt ?_))))
  · cases r with
    | none => exact seg_again rfl h1
    | some v =>
      refine seg_bind_wrap (wpAny_mono h1 (fun _ s2 h2 => ?_) fun x s' hx => ?_)
      · refine seg_bind_wrap (wpAny_mono h2 (fun _ s3 h3 => ?_) fun x s' hx => ?_)
        · rw [Sem.bind_eq_wrap', Sem.wrap_wrap]
          rw [Sem.wrap_congr (execs body env) _ _ (K' := Kf tg it body env) (H' := Hx env) (fun f => by cases f <;> rfl) (fun e => by exact eq1 e)]
          exact h3
        · show Seg _ A R Y n s₀ _ ((do noteFrame x env; theTreesLotGoes x : Sem Unit).bind fun _ => .raise x) fs s'
          rw [eq1]
          exact hx
      · show Seg _ A R Y n s₀ _ ((do noteFrame x env; theTreesLotGoes x : Sem Unit).bind fun _ => .raise x) fs s'
        rw [eq1]
        exact hx
  · show Seg _ A R Y n s₀ _ ((do noteFrame x env; theTreesLotGoes x : Sem Unit).bind fun _ => .raise x) fs s'
    rw [eq1]
    exact hx
end
def tGFor (wi : TI) (g : TG) (tb : TGn) : TGn := fun D ys σ H => wi σ H fun J H1 => ∃ W : Nat → Nat → List V → St → Hp → Prop, (∃ m, W 0 m ys σ H1) ∧ ∀ i m ys σ H, W i m ys σ H →
  (J.stop i H ∧ D.nx ys σ H) ∨ (J.go i H ∧ ∃ N : List V → St → Hp → Prop, (∀ ys' σ' H', N ys' σ' H' → ∃ m', m' < m ∧ W (i + 1) m' ys' σ' H') ∧ ∀ x H', J.yld i H x H' → g x σ H' fun σ2 H2 => tb { D with nx := N, ct := N, bk := D.nx } ys σ2 H2)
theorem gs_for {tg iter : Expr} {body : List Stmt} {pos : Pos} {wi : TI} {g : TG} {tb : TGn} (hp : PassesOwn (model X.prog X.w) X.A X.env X.xe) (hc : X.calm = true) (hi : PI X tg iter wi) (hg : PG X tg g) (hb : GSs X body tb)
    (hf : ∀ x, foldedSetIterable iter X.env x = pure x := by intro _; rfl) : GS X (.For tg iter body [] pos) (tGFor wi g tb) := by
  refine ⟨fun A S ip R n ys s₀ c fs K J gd lv s σ H D gc hn k hI ht => ?_⟩
  rw [exec_For]
  refine seg_bind_wrap (wpAny_standAt (seg_bind_wrap ?_))
  rw [gc.over]
  obtain ⟨acc0, cc0, r0, I0⟩ := hI
  refine wpAny_mono (hi.run _ s σ H _ I0 ht) (fun v s1 h1 => ?_) fun x s' hx => k.exc n s₀ x s' hx
  rw [hf v]
  refine seg_bind_wrap (wpAny_pure (seg_bind_wrap (wpAny_standAt (seg_bind_wrap ?_))))
  rw [gc.over]
  refine wpAny_holding (wpAny_mono h1 (fun itv s2 h2 => ?_) fun x s' hx => k.exc n s₀ x s' hx)
  obtain ⟨it, fp, tn, Jt, H2, e, I2, T, st2, f2, W, ⟨m0, w0⟩, turn⟩ := h2
  subst e
  refine seg_call fun p => ?_
  have gl := fun (kk : Result → Sem PySem.Fin) => gc_loop (k := kk) (c' := Lp tg (.ref it) body X.env) (l := lv []) (kp := []) (p := p) gc rfl rfl
  -- what stays true of the iterator's objects
  have stat : ∀ {acc : Array Value} {cc : Nat} {H' : Hp}, (∀ b ∈ fp, H' b = none) → ∀ b ∈ fp, FpOk X ((S, lstObj acc cc) :: ip) H' b := fun {acc cc H'} hn b hb => by
    obtain ⟨_, z2, z3, z4, z5, z6⟩ := f2 b hb
    refine ⟨hn b hb, z2, z3, z4, z5, fun q hq => ?_⟩
    rcases List.mem_append.mp hq with hq | hq
    · exact z6 q (List.mem_append_left _ hq)
    · rcases List.mem_cons.mp hq with hq | hq
      · rw [hq]
        exact z6 (S, lstObj acc0 cc0) (List.mem_append_right _ List.mem_cons_self)
      · exact z6 q (List.mem_append_right _ (List.mem_cons_of_mem _ hq))
  have loop : ∀ (m i n : Nat) (ys : List V) (s₀ s : Shared) (σ : St) (H : Hp), n + ys.length = sizeLine → W i m ys σ H → GI X S ip ys σ H s → tn i s.heap → (∀ b ∈ fp, H b = none) →
      Seg (model X.prog X.w) A R (GY X S) n s₀ (Lp tg (.ref it) body X.env) ((model X.prog X.w).den (Lp tg (.ref it) body X.env))
        (.ret (fun r => ((match r with | .ok f => (.pure f : Sem Flow) | .error e => .raise e).onRaise (cameBack X.env)).wrap K J gd lv) none (gd false) (lv []) c p [] :: fs) s := by
    intro m
    induction m using Nat.strongRecOn with
    | ind m ih =>
      intro i n ys s₀ s σ H hn w hI tni frees
      have bad : ∀ (n : Nat) (s₀ : Shared) (x : Value) (s' : Shared), X.xe x s' → Seg (model X.prog X.w) A R (GY X S) n s₀ (Lp tg (.ref it) body X.env) (Hx X.env x)
          (.ret (fun r => ((match r with | .ok f => (.pure f : Sem Flow) | .error e => .raise e).onRaise (cameBack X.env)).wrap K J gd lv) none (gd false) (lv []) c p [] :: fs) s' := by
        intro n s₀ x s' hx
        refine seg_wrap ?_
        rw [(gl _).over]
        refine wpAny_bind (wpAny_mono (hp x s' hx) (fun _ s'' z => wpAny_theTreesLotGoes ?_) fun y s'' z => ?_)
        · exact seg_leaf (.error x) (seg_cameBack gc k z)
        · exact seg_leaf (.error y) (seg_cameBack gc k z)
      refine seg_forLoop ?_
      rw [(gl _).over]
      obtain ⟨acc, cc, r, I⟩ := hI
      rcases turn i m ys σ H w with ⟨stop, qn⟩ | ⟨go, N, hN, step⟩
      · refine wpAny_mono (T.done X rfl rfl rfl hc i _ s σ H X.xe I (stat frees) tni stop) (fun rr s3 z => ?_) fun x s' hx => bad n s₀ x s' hx
        obtain ⟨rfl, I3⟩ := z
        show Seg _ A R (GY X S) n s₀ _ ((Sem.onRaise (execs [] X.env) _) >>= _) _ s3
        exact seg_leaf (.ok .next) (k.ok n ys s₀ s3 .next hn ⟨σ, H, ⟨acc, cc, r, I3⟩, qn⟩)
      · refine wpAny_mono (T.item X rfl rfl rfl hc i _ s σ H X.xe I (stat frees) tni go) (fun rr s3 z => ?_) fun x s' hx => bad n s₀ x s' hx
        obtain ⟨u, rfl, z⟩ := z
        refine wpAny_mono z (fun _ s4 z => ?_) fun x s' hx => bad n s₀ x s' hx
        obtain ⟨x, H4, I4, rx, y4, st4, fr4⟩ := z
        have I4' := I4.pinned (stat fr4) (T.obj _ _ st4)
        refine wpAny_mono (hg.run _ s4 σ H4 x u _ I4' rx (step x H4 y4)) (fun _ s5 z => ?_) fun x s' hx => bad n s₀ x s' hx
        obtain ⟨σ5, H5, I5, q5⟩ := z
        have ng : GC X S (ip ++ pinsAt fp s4.heap) A (Lp tg (.ref it) body X.env) (.ret (fun r => ((match r with | .ok f => (.pure f : Sem Flow) | .error e => .raise e).onRaise (cameBack X.env)).wrap K J gd lv) none (gd false) (lv []) c p [] :: fs) id := by
          have g1 := gl (fun r => ((match r with | .ok f => (.pure f : Sem Flow) | .error e => .raise e).onRaise (cameBack X.env)).wrap K J gd lv)
          refine ⟨g1.pn, fun q hq => ?_, g1.apart, g1.over, g1.split, g1.guard, rfl⟩
          rcases List.mem_append.mp hq with hq | hq
          · exact gc.ip q hq
          · have := (f2 q.1 (of_pinsAt hq).1).2.2.2.2.2 (S, lstObj acc0 cc0) (List.mem_append_right _ List.mem_cons_self)
            exact fun z => this z.symm
        refine hb.run A S (ip ++ pinsAt fp s4.heap) R n ys s₀ _ _ (Kf tg (.ref it) body X.env) (Hx X.env) id id s5 σ5 H5 { D with nx := N, ct := N, bk := D.nx } ng hn ⟨fun n' ys' s₀' s6 f hn' hs => ?_, fun n' s₀' x s6 hx => bad n' s₀' x s6 hx⟩ ⟨acc, cc, r, I5⟩ q5
        -- back to the iterators as they were
        have less : ∀ {σ6 : St} {H6 : Hp}, GI X S (ip ++ pinsAt fp s4.heap) ys' σ6 H6 s6 → GI X S ip ys' σ6 H6 s6 ∧ tn (i + 1) s6.heap ∧ ∀ b ∈ fp, H6 b = none := by
          rintro σ6 H6 ⟨acc6, cc6, r6, I6⟩
          have pin : ∀ b ∈ fp, ∀ o, s4.heap.get? b = some o → s6.heap.get? b = some o ∧ H6 b = none := fun b hb o e => by
            have := I6.pin (b, o) (List.mem_append_right _ (List.mem_cons_of_mem _ (List.mem_append_right _ (mem_pinsAt hb e))))
            exact ⟨this.1, this.2.1⟩
          refine ⟨⟨acc6, cc6, r6, I6.pins_of fun q hq => I6.pin q (List.mem_append_right _ ?_)⟩, T.keep _ _ _ st4 fun b hb o e => (pin b hb o e).1, fun b hb => ?_⟩
          · rcases List.mem_cons.mp hq with hq | hq
            · rw [hq]; exact List.mem_cons_self
            · exact List.mem_cons_of_mem _ (List.mem_append_left _ hq)
          · obtain ⟨o, e, _⟩ := T.obj _ _ st4 b hb
            exact (pin b hb o e).2
        cases f with
        | next =>
          obtain ⟨σ6, H6, G6, n6⟩ := hs
          obtain ⟨m', hm, w6⟩ := hN ys' σ6 H6 n6
          obtain ⟨a1, a2, a3⟩ := less G6
          exact seg_again rfl (ih m' hm (i + 1) n' ys' s₀' s6 σ6 H6 hn' w6 a1 a2 a3)
        | cont =>
          obtain ⟨σ6, H6, G6, n6⟩ := hs
          obtain ⟨m', hm, w6⟩ := hN ys' σ6 H6 n6
          obtain ⟨a1, a2, a3⟩ := less G6
          exact seg_again rfl (ih m' hm (i + 1) n' ys' s₀' s6 σ6 H6 hn' w6 a1 a2 a3)
        | brk =>
          obtain ⟨σ6, H6, G6, q6⟩ := hs
          exact seg_leaf (.ok .next) (k.ok n' ys' s₀' s6 .next hn' ⟨σ6, H6, (less G6).1, q6⟩)
        | ret v =>
          obtain ⟨v6, σ6, H6, G6, rv6, q6⟩ := hs
          exact seg_leaf (.ok (.ret v)) (k.ok n' ys' s₀' s6 (.ret v) hn' ⟨v6, σ6, H6, (less G6).1, rv6, q6⟩)
  exact loop m0 0 n ys s₀ s2 σ H2 hn w0 ⟨acc0, cc0, r0, I2⟩ st2 fun b hb => (f2 b hb).1
end
end Gf

/-! Generators by data. -/
namespace Fx
open PySem L2 Gf
/-- a block of a generator: ds is out, then ds' -/
def Gs (G : Gx) (t : TGn) (ds : List D) (cs : List Cell) (P : List D → List Cell → Prop) : Prop := ∀ (F : Hp) (σ : L2.St) (H : Hp) (E : GEnds) (ys : List V), Rel G F σ H cs → IsAll G F ds ys →
  (∀ ds' cs' σ' F' H' ys', P ds' cs' → Stp F H (Owns cs) F' H' (Owns cs') → Rel G F' σ' H' cs' → IsAll G F' ds' ys' → E.nx ys' σ' H') → t E ys σ H
def rdN (X : Cx) (st : Stmt) : TGn := fun D ys σ H => ∀ (A : Around) (S : Addr) (ip : List (Addr × Obj)) (R : GenEnd) (n : Nat) (s₀ : Shared) (c : Code) (fs : List Frame) (K : Flow → Sem PySem.Fin) (J : Value → Sem PySem.Fin) (gd : Bool → Bool) (lv : List Value → List Value) (s : Shared),
  GC X S ip A c fs gd → n + ys.length = sizeLine → GK X S ip A R c fs K J D → GI X S ip ys σ H s → Seg (model X.prog X.w) A R (GY X S) n s₀ c ((exec st X.env).wrap K J gd lv) fs s
def rdNs (X : Cx) (st : List Stmt) : TGn := fun D ys σ H => ∀ (A : Around) (S : Addr) (ip : List (Addr × Obj)) (R : GenEnd) (n : Nat) (s₀ : Shared) (c : Code) (fs : List Frame) (K : Flow → Sem PySem.Fin) (J : Value → Sem PySem.Fin) (gd : Bool → Bool) (lv : List Value → List Value) (s : Shared),
  GC X S ip A c fs gd → n + ys.length = sizeLine → GK X S ip A R c fs K J D → GI X S ip ys σ H s → Seg (model X.prog X.w) A R (GY X S) n s₀ c ((execs st X.env).wrap K J gd lv) fs s
section
variable {X : Cx} {G : Gx} {e c tg iter : Expr} {st : Stmt} {sts body : List Stmt} {pos yp : Pos} {cs cs1 cs2 : List Cell} {d : D} {ds : List D} {P : List D → List Cell → Prop} {k : Bool}
theorem gs_rd : GS X st (rdN X st) := ⟨fun A S ip R n ys s₀ c fs K J gd lv s σ H D g hn k I h => h A S ip R n s₀ c fs K J gd lv s g hn k I⟩
theorem gss_rd : GSs X sts (rdNs X sts) := ⟨fun A S ip R n ys s₀ c fs K J gd lv s σ H D g hn k I h => h A S ip R n s₀ c fs K J gd lv s g hn k I⟩
theorem gx_of {t : TGn} (h : GS X st t) (q : Gs G t ds cs P) : Gs G (rdN X st) ds cs P := fun F σ H E ys rl ia kk A S ip R n s₀ c fs K J gd lv s g hn k I => h.run A S ip R n ys s₀ c fs K J gd lv s σ H E g hn k I (q F σ H E ys rl ia kk)
theorem gxs_of {t : TGn} (h : GSs X sts t) (q : Gs G t ds cs P) : Gs G (rdNs X sts) ds cs P := fun F σ H E ys rl ia kk A S ip R n s₀ c fs K J gd lv s g hn k I => h.run A S ip R n ys s₀ c fs K J gd lv s σ H E g hn k I (q F σ H E ys rl ia kk)
theorem gx_nil (h : P ds cs) : Gs G (rdNs X []) ds cs P := gxs_of gss_nil fun F σ H E ys rl ia kk => kk ds cs σ F H ys h .refl rl ia
theorem gx_cons (h : Gs G (rdN X st) ds cs fun ds' cs' => Gs G (rdNs X sts) ds' cs' P) : Gs G (rdNs X (st :: sts)) ds cs P :=
  gxs_of (gss_cons gs_rd gss_rd) fun F σ H E ys rl ia kk => h F σ H _ ys rl ia fun ds' cs' σ' F' H' ys' hp s1 r1 ia1 => hp F' σ' H' E ys' r1 ia1 fun ds2 cs2 σ2 F2 H2 ys2 hp2 s2 r2 ia2 => kk ds2 cs2 σ2 F2 H2 ys2 hp2 (s1.trans s2) r2 ia2
theorem gx_one (h : Gs G (rdN X st) ds cs P) : Gs G (rdNs X [st]) ds cs P := gx_cons fun F σ H E ys rl ia kk => h F σ H E ys rl ia fun ds' cs' σ' F' H' ys' hp => kk ds' cs' σ' F' H' ys' (gx_nil hp)
theorem gx_plain (h : Sx G (rdS X st) cs { nx := fun c => P ds c }) : Gs G (rdN X st) ds cs P :=
  gx_of (gs_ps ps_rd) fun F σ H E ys rl ia kk => h F σ H _ rl (fun cs' σ' F' H' hp s1 r1 => kk ds cs' σ' F' H' ys hp s1 r1 (IsAll.mono s1.fsub ds ia)) (fun _ _ _ _ _ _ z => z.elim) (fun _ _ _ _ _ _ _ z => z.elim) (fun _ _ _ _ z => z.elim) (fun _ _ _ _ z => z.elim)
theorem gx_if {s1 s2 : List Stmt} (h : EvT G (rdT X c) cs k cs1) (h1 : k = true → Gs G (rdNs X s1) ds cs1 P) (h2 : k = false → Gs G (rdNs X s2) ds cs1 P) : Gs G (rdN X (.If c s1 s2 pos)) ds cs P :=
  gx_of (gs_if pt_rd gss_rd gss_rd) fun F σ H E ys rl ia kk => h F σ H _ rl fun F1 H1 st1 r1 => by
    have ia1 := IsAll.mono st1.fsub ds ia
    cases k with
    | true => exact iteT (h1 rfl F1 σ H1 E ys r1 ia1 fun ds' cs' σ' F' H' ys' hp s2 r2 ia2 => kk ds' cs' σ' F' H' ys' hp (st1.trans s2) r2 ia2)
    | false => exact iteF (h2 rfl F1 σ H1 E ys r1 ia1 fun ds' cs' σ' F' H' ys' hp s2 r2 ia2 => kk ds' cs' σ' F' H' ys' hp (st1.trans s2) r2 ia2)
theorem gx_yield (h : Ev G (rdE X e) cs d cs1) (hz : ds.length ≤ 1000000) (hp : P (ds ++ [d]) cs1) (hco : X.env.scope.isCoroutine = false := by rfl) (hi : interactive X.env = false := by rfl) : Gs G (rdN X (.Expr (.Yield (some e) yp) pos)) ds cs P :=
  gx_of (gs_yield pe_rd hco hi) fun F σ H E ys rl ia kk => ⟨by rw [ia.length, sizeLine_eq]; omega, h F σ H _ rl fun v F1 H1 st1 r1 q1 => kk _ cs1 σ F1 H1 _ hp st1 r1 ((IsAll.mono st1.fsub ds ia).append (.one q1))⟩
theorem gx_for {its : List D} (hi : EvI G (rdI X tg iter) cs its cs1) (I : Nat → List D → List Cell → Prop) (h0 : I 0 ds cs1)
    (hs : ∀ (i : Nat) d ds2 cs2, its[i]? = some d → I i ds2 cs2 → ∃ cs3 tl, EvG G (rdG X tg) tl d cs2 cs3 ∧ Gs G (rdNs X body) ds2 cs3 (I (i + 1))) (hd : ∀ ds2 cs2, I its.length ds2 cs2 → P ds2 cs2)
    (hc : X.calm = true) (hp : PassesOwn (model X.prog X.w) X.A X.env X.xe) (hf : ∀ x, foldedSetIterable iter X.env x = pure x := by intro _; rfl) : Gs G (rdN X (.For tg iter body [] pos)) ds cs P :=
  gx_of (gs_for hp hc pi_rd pg_rd gss_rd hf) fun F σ H E ys rl ia kk => hi F σ H _ rl fun J F1 H1 st1 r1 it => by
    refine ⟨fun i m ys2 σ2 H2 => m = its.length - i ∧ i ≤ its.length ∧ ∃ ds2 cs2 F2, I i ds2 cs2 ∧ Rel G F2 σ2 H2 cs2 ∧ IsAll G F2 ds2 ys2 ∧ Stp F1 H1 (Owns cs1) F2 H2 (Owns cs2), ⟨its.length, by simp, Nat.zero_le _, ds, cs1, F1, h0, r1, IsAll.mono st1.fsub ds ia, .refl⟩, ?_⟩
    rintro i m ys2 σ2 H2 ⟨rfl, hi2, ds2, cs2, F2, i2, r2, ia2, st2⟩
    obtain ⟨hgo, hstop⟩ := it F2 H2 st2.fsub r2.sub
    by_cases hlt : i < its.length
    · obtain ⟨go, yl⟩ := hgo i its[i] (List.getElem?_eq_getElem hlt)
      refine .inr ⟨go, fun ys' σ' H' => ∃ ds4 cs4 F4, I (i + 1) ds4 cs4 ∧ Rel G F4 σ' H' cs4 ∧ IsAll G F4 ds4 ys' ∧ Stp F1 H1 (Owns cs1) F4 H' (Owns cs4), fun ys' σ' H' q => ⟨its.length - (i + 1), by omega, rfl, hlt, q⟩, fun x H3 y => ?_⟩
      obtain ⟨F3, g, q3⟩ := yl x H3 y
      obtain ⟨cs3, tl, hg, hb⟩ := hs i its[i] ds2 cs2 (List.getElem?_eq_getElem hlt) i2
      refine hg F3 σ2 H3 x _ (r2.grow g) q3 fun σ3 st3 r3 _ => ?_
      have sa := (st2.trans g.stp).trans st3
      exact hb F3 σ3 H3 _ ys2 r3 (IsAll.mono g.fsub ds2 ia2) fun ds4 cs4 σ4 F4 H4 ys4 i4 s4 r4 ia4 => ⟨ds4, cs4, F4, i4, r4, ia4, sa.trans s4⟩
    · have e : i = its.length := by omega
      subst e
      exact .inl ⟨hstop, kk ds2 cs2 σ2 F2 H2 ys2 (hd ds2 cs2 i2) (st1.trans st2) r2 ia2⟩
end
/-! ### generator defs -/
def spG0 (G : Gx) (C : List D → List D → Prop) : SpG := fun vs H cont _ => ∃ F ds es, Same F H ∧ IsAll G F ds vs ∧ C ds es ∧ ∀ ys F' H', Grow F H F' H' → IsAll G F' es ys → cont ys H'
abbrev gcx (P : Program) (w : World) (K : PySem.W.Frag) (mg : Str → Option Value) (base : Heap) (N : List Str) (qual : Str) (st : Stmt) (f : Addr) (cdv : Value) (A : Around) (outer : List Env) (s : Shared) (H : Hp) (E : XK) (pn : List (Addr × Obj)) : Cx := gcxOf P w K mg base N qual (defScope st) f cdv A outer s H E pn
section
variable {P : Program} {w : World} {G : Gx} {mg : Str → Option Value} {base : Heap} {x qual : Str} {st : Stmt} {f : Addr} {fd : FuncData} {N ps : List Str} {k : Nat}
theorem gfn0 {C : List D → List D → Prop} (F : L2.Fun G.K x qual st f fd) (S : GScope N ps (defScope st)) (hl : ∀ ds es, C ds es → ds.length = ps.length) (hN : ps.length ≤ N.length)
    (body : ∀ cdv A outer s H E pn, Room k (gcx P w G.K mg base N qual st f cdv A outer s H E pn).A → ∀ ds es, C ds es → Gs G (rdNs (gcx P w G.K mg base N qual st f cdv A outer s H E pn) (defBody st)) [] (vals ds ++ nos (N.length - ps.length)) (fun es' _ => es' = es)) :
    GFn P w G.K mg base (k + 1) f fd ps (spG0 G C) := by
  obtain ⟨oc, od, kV, doc, pm, an, cdv, ct, osl, rfl, lk, hcd⟩ := F.ex
  refine gfn_of lk hcd S (fun vs H Q E ⟨F, ds, es, _, h, c, _⟩ => h.length.trans (hl ds es c)) fun A outer s H vs Q E pn hr hsp => ?_
  obtain ⟨F0, ds, es, sm, h, c, ret⟩ := hsp
  refine ⟨_, gss_rd, ?_⟩
  have hdl := hl ds es c
  have rl := rel_start (N := N) sm h (by omega)
  rw [hdl] at rl
  have no : ∀ a, ¬ Owns (vals ds ++ nos (N.length - ps.length)) a := fun a => owns_start
  exact body cdv A outer s H E pn hr ds es c F0 _ H _ [] rl rfl fun es' cs' σ' F' H' ys' hp st r ia => by
    subst hp
    exact ret ys' F' H' (grow_of st no r.sub) ia
end
def FnGen (G : Gx) (P : Program) (w : World) (mg : Str → Option Value) (base : Heap) (k : Nat) (n : Str) (C : List D → List D → Prop) : Prop := ∃ f fd ps, mg n = some (.ref f) ∧ PySem.W.keepIn G.K (.ref f) = true ∧ GFn P w G.K mg base k f fd ps (spG0 G C) ∧ Binds G.K fd ps []
section
variable {X : Cx} {G : Gx} {e : Expr} {es : List Expr} {np lp pos pos' : Pos} {n : Str} {cs cs1 : List Cell} {ds es' : List D} {j k : Nat}
theorem evn_listG {C : List D → List D → Prop} (Fn : FnGen G X.prog X.w X.mg X.base k n C) (hr : Room j X.A) (hk : k + 3 ≤ j) (ha : EvV G (rdA X (e :: es)) cs ds cs1) (hC : C ds es') (hg : Gl X n) (gl : Gl X "list") (ml : X.mg "list" = none) (hK : G.K = X.K := by rfl) (hd : (n == ("__debug__" : Str)) = false := by decide)
    (he : starEach (e :: es) X.env = (false, eval e X.env) :: starEach es X.env := by rfl) (hpl : (backTo pos' (starEach es X.env)).any (·.1) = false := by rfl) (hs : starEach [.Call (.Name n np) (e :: es) [] pos'] X.env = (false, eval (.Call (.Name n np) (e :: es) [] pos') X.env) :: starEach [] X.env := by rfl) :
    EvN G (rdE X (.Call (.Name "list" lp) [.Call (.Name n np) (e :: es) [] pos'] [] pos)) cs es' cs1 := by
  obtain ⟨f, fd, ps, hm, kp, F, hb⟩ := Fn
  rw [hK] at kp F hb
  have r1 : Room k X.A := hr.mono (by omega)
  have r3 : Room (k + 3) X.A := hr.mono hk
  have pass : Passes (CX X.prog X.w) X E0 := fun pins σ H s e s' I h => by
    obtain ⟨a, B, H', cls, d, z1, fl, z2, ub, z3, z4, z5, z6⟩ := h
    exact absurd z6 (fun z => by first | exact z.elim | exact z.1.elim | exact z.2.elim)
  refine evn_of (pe_listG (E := E0) (pgen_call (dvs := []) (ds := []) F r1 hg hm kp hb .nil pa_rd hd he hpl) pass (fun _ _ _ z => z.elim) r3 gl ml (by rfl) (by decide) (by decide) hs) fun F σ H Q rl q => ha F σ H _ rl fun vs F1 H1 st1 rr q1 => ?_
  refine ⟨F1, ds, es', rr.sub, by rw [List.append_nil]; exact q1, hC, fun ys F2 H2 g ia p hp => ?_⟩
  exact evn_new (st1.trans g.stp) rl (rr.grow g) q p ys hp ia
end
end Fx

/-! What the top leaves: facts and defs, each at an address told by a function. -/
namespace Fx
open PySem PyProof PyProof.Rows L2
/-- a def, where it stands -/
structure Df where
  at_ : PySem.W.Frag → Addr
  name : Str
  qual : Str
  st : Stmt
def Df.val (d : Df) : He.FnW := some (d.name, d.qual, defArgs d.st, .stmts (defBody d.st), defScope d.st, mainGlobals, [], builtinsNs)
def fnA (K : PySem.W.Frag) (f : Addr) : He.FnW := match K.lookup f with
  | some ⟨_, _, .func fd, _⟩ => some (fd.name, fd.qualname, fd.params, fd.body, fd.scope, fd.globals, fd.closure, fd.builtins)
  | _ => none
def isNo : Value → Bool
  | .none => true
  | _ => false
theorem isNo_ok {v : Value} (h : isNo v = true) : v = .none := by
  cases v <;> first | rfl | cases h
def Df.ok (K : PySem.W.Frag) (d : Df) : Bool := PySem.W.keepIn K (.ref (d.at_ K)) && (match K.lookup (d.at_ K) with
  | some ⟨_, _, .func fd, _⟩ => PySem.W.codeIn K fd.code d.qual && isNo fd.defaults
  | _ => false)
theorem Df.fun_ {K : PySem.W.Frag} {d : Df} (e : fnA K (d.at_ K) = d.val) (c : d.ok K = true) : ∃ fd, L2.Fun K d.name d.qual d.st (d.at_ K) fd := by
  obtain ⟨kp, c2⟩ := He.ba c
  unfold fnA at e
  cases q : K.lookup (d.at_ K) with
  | none =>
    rw [q] at c2
    cases c2
  | some o =>
    obtain ⟨oc, od, dt, osl⟩ := o
    rw [q] at c2 e
    cases dt with
    | func fd =>
      obtain ⟨n1, n2, n3, n4, n5, n6, n7, n8, n9, n10, n11, n12, n13, n14, n15⟩ := fd
      have e2 : (some (n1, n2, n3, n4, n5, n6, n7, n15) : He.FnW) = some (d.name, d.qual, defArgs d.st, .stmts (defBody d.st), defScope d.st, mainGlobals, [], builtinsNs) := e
      simp only [Option.some.injEq, Prod.mk.injEq] at e2
      obtain ⟨h1, h2, h3, h4, h5, h6, h7, h8⟩ := e2
      subst h1 h2 h3 h4 h5 h6 h7 h8
      have c3 : (PySem.W.codeIn K n13 d.qual && isNo n8) = true := c2
      obtain ⟨k1, k2⟩ := He.ba c3
      have k3 := isNo_ok k2
      subst k3
      exact ⟨_, ⟨oc, od, n9, n10, n11, n12, n13, n14, osl, rfl, q, k1⟩, kp⟩
    | _ => cases c2
abbrev AlY : Type := Bool × List He.FnW
def obsY (fa : List (PySem.W.Frag → Bool)) (fn : List Df) (K : PySem.W.Frag) : AlY := ((fa.all fun f => f K) && fn.all fun d => d.ok K, fn.map fun d => fnA K (d.at_ K))
/-- (a recursion of its own: the kernel must not hold the two maps' functions against each other) -/
def valsY : List Df → List He.FnW
  | [] => []
  | d :: r => d.val :: valsY r
theorem valsY_eq : ∀ fn : List Df, valsY fn = fn.map Df.val
  | [] => rfl
  | d :: r => congrArg (d.val :: ·) (valsY_eq r)
def valY (fn : List Df) : AlY := (true, valsY fn)
def SaysY (fa : List (PySem.W.Frag → Bool)) (fn : List Df) (K : PySem.W.Frag) : Prop := obsY fa fn K = valY fn
def obsYG (n : Nat) (fa : List (PySem.W.Frag → Bool)) (fn : List Df) (g : Addr → Option Obj) : AlY := obsY fa fn (He.frG g (He.asD g n))
def hookY (n : Nat) (fa : List (PySem.W.Frag → Bool)) (fn : List Df) : PySem.W.Hook where
  α := AlY
  obs := fun s => obsYG n fa fn s.heap.get?
  val := fun _ => valY fn
  says := fun _ h => ∃ K : PySem.W.Frag, K.In h ∧ SaysY fa fn K
  of := fun _ _ e => ⟨_, He.frG_in, e⟩
  keeps := fun _ _ _ ⟨K, hK, c⟩ k => ⟨K, PySem.W.Frag.In.keeps hK k, c⟩
theorem obsYG_eq {n : Nat} {fa : List (PySem.W.Frag → Bool)} {fn : List Df} {g : Addr → Option Obj} {s : Shared} (h : ∀ a, g a = s.heap.get? a) : obsYG n fa fn g = (hookY n fa fn).obs s := by
  have e : g = s.heap.get? := funext h
  rw [e] <;> rfl
section
variable {fa : List (PySem.W.Frag → Bool)} {fn : List Df} {K : PySem.W.Frag}
theorem SaysY.fact (c : SaysY fa fn K) (i : Nat) {f : PySem.W.Frag → Bool} (h : fa[i]? = some f := by rfl) : f K = true := by
  have c1 := (He.ba (show ((fa.all fun f => f K) && fn.all fun d => d.ok K) = true from congrArg (fun z : AlY => z.1) c)).1
  exact List.all_eq_true.mp c1 f (List.mem_of_getElem? h)
theorem SaysY.def_ (c : SaysY fa fn K) (i : Nat) {d : Df} (h : fn[i]? = some d := by rfl) : ∃ fd, L2.Fun K d.name d.qual d.st (d.at_ K) fd := by
  have c2 := (He.ba (show ((fa.all fun f => f K) && fn.all fun d => d.ok K) = true from congrArg (fun z : AlY => z.1) c)).2
  have e : fn.map (fun d => fnA K (d.at_ K)) = fn.map Df.val := (show fn.map (fun d => fnA K (d.at_ K)) = valsY fn from congrArg (fun z : AlY => z.2) c).trans (valsY_eq fn)
  have e2 : (fn.map fun d => fnA K (d.at_ K))[i]? = (fn.map Df.val)[i]? := by rw [e]
  rw [List.getElem?_map, List.getElem?_map, h] at e2
  exact Df.fun_ (Option.some.inj e2) (List.all_eq_true.mp c2 d (List.mem_of_getElem? h))
end
/-! ### addresses -/
def aG (x : Str) (K : PySem.W.Frag) : Addr := He.ga K x
def aM (C m : Str) (K : PySem.W.Frag) : Addr := He.ma K (He.ga K C) m
/-- the first field of a record (a property's getter, a class method's def) -/
def rec0 (K : PySem.W.Frag) (p : Addr) (T : String) : Addr := match PySem.W.recIn K p T with
  | some (.ref g :: _) => g
  | _ => 0
def aP (C m : Str) (K : PySem.W.Frag) : Addr := rec0 K (aM C m K) "property"
/-- a class method's record stands where the class's dict has it -/
def aR (C m : Str) (K : PySem.W.Frag) : Addr := match PySem.W.findCls K (.ref (He.ga K C)) (.type "type") m with
  | some (.get _ (.ref p) _ _) => p
  | _ => 0
def aK (C m : Str) (K : PySem.W.Frag) : Addr := rec0 K (aR C m K) "classmethod"
/-! ### facts of a class -/
def recHas (K : PySem.W.Frag) (p : Addr) (T : String) (g : Addr) : Bool := match PySem.W.recIn K p T with
  | some (.ref g' :: _) => decide (g' = g)
  | _ => false
theorem recHas_ok {K : PySem.W.Frag} {p g : Addr} {T : String} (h : recHas K p T g = true) : ∃ rest, PySem.W.recIn K p T = some (.ref g :: rest) := by
  unfold recHas at h
  split at h
  · rename_i g' rest e
    rw [of_decide_eq_true h] at e
    exact ⟨rest, e⟩
  · cases h
def fProp (C f : Str) (K : PySem.W.Frag) : Bool := He.eqO (PySem.W.findIn K (.ref (He.ga K C)) f) (some (some (.ref (aM C f K)))) && (He.eqO (PySem.W.specialIn K (.ref (aM C f K)) "__get__") (some (some (.builtin "property.__get__"))) && (decide (PySem.W.takesIn K (.ref (aM C f K)) = some true) && recHas K (aM C f K) "property" (aP C f K)))
theorem fProp_ok {C f : Str} {K : PySem.W.Frag} (h : fProp C f K = true) : PropOf K (He.ga K C) f (aM C f K) (aP C f K) := by
  obtain ⟨h1, h⟩ := He.ba h
  obtain ⟨h2, h⟩ := He.ba h
  obtain ⟨h3, h4⟩ := He.ba h
  exact ⟨He.eqO_ok h1, He.eqO_ok h2, of_decide_eq_true h3, recHas_ok h4⟩
def fRead (C : Str) (K : PySem.W.Frag) : Bool := PySem.W.readsIn K (He.ga K C) (.type "type") && He.eqO (PySem.W.specialIn K (.ref (He.ga K C)) "__getattribute__") (some (some (.builtin "type.__getattribute__")))
theorem fRead_ok {C : Str} {K : PySem.W.Frag} (h : fRead C K = true) : ClX.CRead K (He.ga K C) (.type "type") := by
  obtain ⟨h1, h2⟩ := He.ba h
  exact ⟨h1, He.eqO_ok h2⟩
def isCM (C : Addr) : Option PySem.W.CFound → Addr → Bool
  | some (.get (.builtin id) (.ref p) .none (.ref c)), q => decide (id = "classmethod.__get__") && (decide (p = q) && decide (c = C))
  | _, _ => false
def fCM (C m : Str) (K : PySem.W.Frag) : Bool := isCM (He.ga K C) (PySem.W.findCls K (.ref (He.ga K C)) (.type "type") m) (aR C m K) && (recHas K (aR C m K) "classmethod" (aK C m K) && PySem.W.fnIn K (aK C m K))
theorem isCM_ok {C p : Addr} {o : Option PySem.W.CFound} (h : isCM C o p = true) : o = some (.get (.builtin "classmethod.__get__") (.ref p) .none (.ref C)) := by
  unfold isCM at h
  split at h
  · obtain ⟨h1, h⟩ := He.ba h
    obtain ⟨h2, h3⟩ := He.ba h
    rw [of_decide_eq_true h1, of_decide_eq_true h2, of_decide_eq_true h3]
  · cases h
theorem fCM_ok {C m : Str} {K : PySem.W.Frag} (h : fCM C m K = true) : ClX.CMet K (He.ga K C) (.type "type") m (aR C m K) (aK C m K) := by
  obtain ⟨h1, h⟩ := He.ba h
  obtain ⟨h2, h3⟩ := He.ba h
  exact ⟨isCM_ok h1, recHas_ok h2, h3⟩
def fTy (C : Str) (K : PySem.W.Frag) : Bool := He.eqO (PySem.W.findIn K (.ref (He.ga K C)) "__class__") (some (some (.builtin "object.__class__"))) && (He.eqO (PySem.W.specialIn K (.builtin "object.__class__") "__get__") (some (some (.builtin "getset_descriptor.__get__"))) && (decide (PySem.W.takesIn K (.builtin "object.__class__") = some true) && decide (PySem.W.mroIn K (He.ga K C) (.type "object") = some true)))
theorem fTy_ok {C : Str} {K : PySem.W.Frag} (h : fTy C K = true) (cl : Cls K (He.ga K C)) (a dx : Addr) (fs : List (Str × V)) : TyOf K (fun b => if b = a then some (.ins (He.ga K C) dx fs) else none) (.ref a) (.ref (He.ga K C)) := by
  obtain ⟨h1, h⟩ := He.ba h
  obtain ⟨h2, h⟩ := He.ba h
  obtain ⟨h3, h4⟩ := He.ba h
  exact .ins (dx := dx) (fs := fs) (if_pos rfl) cl (He.eqO_ok h1) (He.eqO_ok h2) (of_decide_eq_true h3) (of_decide_eq_true h4)
def fKit (C : Str) (K : PySem.W.Frag) : Bool := decide (PySem.W.kitOne K (.ref (He.ga K C)) (.ref (He.ga K C)) = some true)
def fCall (C : Str) (K : PySem.W.Frag) : Bool := He.eqO (PySem.W.findIn K (.ref (He.ga K C)) "__call__") (some (some (.ref (aM C "__call__" K)))) && (PySem.W.isFn K (.ref (aM C "__call__" K)) && PySem.W.fnIn K (aM C "__call__" K))
theorem fCall_ok {C : Str} {K : PySem.W.Frag} (h : fCall C K = true) : StX.CallO K (He.ga K C) (aM C "__call__" K) := by
  obtain ⟨h1, h⟩ := He.ba h
  obtain ⟨h2, h3⟩ := He.ba h
  exact ⟨He.eqO_ok h1, h2, h3⟩
def fLen (C : Str) (K : PySem.W.Frag) : Bool := He.eqO (PySem.W.findIn K (.ref (He.ga K C)) "__len__") (some (some (.ref (aM C "__len__" K)))) && PySem.W.isFn K (.ref (aM C "__len__" K))
theorem fLen_ok {C : Str} {K : PySem.W.Frag} (h : fLen C K = true) : PySem.W.findIn K (.ref (He.ga K C)) "__len__" = some (some (.ref (aM C "__len__" K))) ∧ PySem.W.isFn K (.ref (aM C "__len__" K)) = true := by
  obtain ⟨h1, h2⟩ := He.ba h
  exact ⟨He.eqO_ok h1, h2⟩
def fBin (C m : Str) (K : PySem.W.Frag) : Bool := PySem.W.selfFirst K (He.ga K C) && (He.eqO (PySem.W.findIn K (.ref (He.ga K C)) m) (some (some (.ref (aM C m K)))) && PySem.W.isFn K (.ref (aM C m K)))
theorem fBin_ok {C m : Str} {K : PySem.W.Frag} (h : fBin C m K = true) : BinO K (He.ga K C) (aM C m K) m := by
  obtain ⟨h1, h⟩ := He.ba h
  obtain ⟨h2, h3⟩ := He.ba h
  exact ⟨h1, He.eqO_ok h2, h3⟩
def fNe (C : Str) (K : PySem.W.Frag) : Bool := He.eqO (PySem.W.findIn K (.ref (He.ga K C)) "__ne__") (some (some (.builtin "object.__ne__"))) && PySem.W.plainOver K (He.ga K C)
theorem fNe_ok {C : Str} {K : PySem.W.Frag} (h : fNe C K = true) : NeO K (He.ga K C) := by
  obtain ⟨h1, h2⟩ := He.ba h
  exact ⟨He.eqO_ok h1, h2⟩
def fXC (x : Str) (K : PySem.W.Frag) : Bool := PySem.W.excIn K (He.ga K x) veM "ValueError.__new__" && (PySem.W.keepIn K (.ref (He.ga K x)) && (decide (PySem.W.subIn K (.ref (He.ga K x)) (.type "BaseException") = some true) && decide (PySem.W.typeIn K (.ref (He.ga K x)) = some (.type "type"))))
theorem fXC_ok {G : Gx} {mg : Str → Option Value} {x : Str} {c : Nat} (h : fXC x G.K = true) (hc : G.cls c = He.ga G.K x) (nm : mg x = some (.ref (He.ga G.K x))) : XC G mg c x := by
  obtain ⟨h1, h⟩ := He.ba h
  obtain ⟨h2, h⟩ := He.ba h
  obtain ⟨h3, h4⟩ := He.ba h
  refine ⟨by rw [hc]; exact nm, by rw [hc]; exact h1, by rw [hc]; exact h2, by rw [hc]; exact of_decide_eq_true h3, by rw [hc]; exact of_decide_eq_true h4⟩
def fExm (x y : Str) (b : Bool) (K : PySem.W.Frag) : Bool := decide (PySem.W.exmOne K (.ref (He.ga K x)) (.ref (He.ga K y)) = some b)
theorem fExm_ok {x y : Str} {b : Bool} {K : PySem.W.Frag} (h : fExm x y b K = true) : PySem.W.exmOne K (.ref (He.ga K x)) (.ref (He.ga K y)) = some b := of_decide_eq_true h
def fKitF (C : Str) (K : PySem.W.Frag) : Bool := oddT.all fun t => decide (PySem.W.kitOne K (.type t) (.ref (He.ga K C)) = some false)
theorem fKitF_ok {C : Str} {K : PySem.W.Frag} (h : fKitF C K = true) (t : String) (ht : t ∈ oddT) : PySem.W.kitOne K (.type t) (.ref (He.ga K C)) = some false := of_decide_eq_true (List.all_eq_true.mp h t ht)
def fKitO (C C2 : Str) (K : PySem.W.Frag) : Bool := decide (PySem.W.kitOne K (.ref (He.ga K C)) (.ref (He.ga K C2)) = some false)
theorem fKitO_ok {C C2 : Str} {K : PySem.W.Frag} (h : fKitO C C2 K = true) : PySem.W.kitOne K (.ref (He.ga K C)) (.ref (He.ga K C2)) = some false := of_decide_eq_true h
def fKt (C : Str) (K : PySem.W.Frag) : Bool := clsT.all fun t => decide (PySem.W.kitOne K (.ref (He.ga K C)) (.type t) = some false)
theorem fKt_ok {C : Str} {K : PySem.W.Frag} (h : fKt C K = true) (t : String) (ht : t ∈ clsT) : PySem.W.kitOne K (.ref (He.ga K C)) (.type t) = some false := of_decide_eq_true (List.all_eq_true.mp h t ht)
def fNoM (C m : Str) (K : PySem.W.Frag) : Bool := He.eqO (PySem.W.findIn K (.ref (He.ga K C)) m) (some none)
/-! the parts that hang at the module's names and at the machine's own tables: level by level, the ones seen as the bits of a number -/
def frB {α : Type} (n : Nat) (k : Nat → α) : α := match n with
  | 0 => k 0
  | m + 1 => k (m + 1)
def addY : List Addr → Nat → List Addr → (List Addr → Nat → List Addr) → List Addr
  | [], seen, acc, k => k acc seen
  | a :: r, seen, acc, k => match Nat.land (Nat.shiftRight seen a) 1 with
    | 0 => frB (Nat.lor seen (Nat.shiftLeft 1 a)) fun seen => addY r seen (a :: acc) k
    | _ + 1 => addY r seen acc k
def refsY (g : Addr → Option Obj) (a : Addr) : List Addr := match g a with
  | some o => He.refsD o
  | none => []
/-- the refs of the ones at hand -/
def nextY (g : Addr → Option Obj) : List Addr → Nat → List Addr → (List Addr → Nat → List Addr) → List Addr
  | [], seen, acc, k => k acc seen
  | a :: r, seen, acc, k => addY (refsY g a) seen acc fun acc seen => nextY g r seen acc k
def walkY (g : Addr → Option Obj) : Nat → List Addr → Nat → List Addr
  | 0, now, _ => now
  | n + 1, now, seen => now ++ nextY g now seen [] fun nx seen => walkY g n nx seen
def asY (g : Addr → Option Obj) (more : List Addr) (n : Nat) : List Addr := addY (mainGlobals :: more) 0 [] fun now seen => walkY g n now seen
def obsZG (n : Nat) (more : List Addr) (fa : List (PySem.W.Frag → Bool)) (fn : List Df) (g : Addr → Option Obj) : AlY := obsY fa fn (He.frG g (asY g more n))
def hookZ (n : Nat) (more : List Addr) (fa : List (PySem.W.Frag → Bool)) (fn : List Df) : PySem.W.Hook where
  α := AlY
  obs := fun s => obsZG n more fa fn s.heap.get?
  val := fun _ => valY fn
  says := fun _ h => ∃ K : PySem.W.Frag, K.In h ∧ SaysY fa fn K
  of := fun _ _ e => ⟨_, He.frG_in, e⟩
  keeps := fun _ _ _ ⟨K, hK, c⟩ k => ⟨K, PySem.W.Frag.In.keeps hK k, c⟩
theorem obsZG_eq {n : Nat} {more : List Addr} {fa : List (PySem.W.Frag → Bool)} {fn : List Df} {g : Addr → Option Obj} {s : Shared} (h : ∀ a, g a = s.heap.get? a) : obsZG n more fa fn g = (hookZ n more fa fn).obs s := by
  have e : g = s.heap.get? := funext h
  rw [e] <;> rfl
theorem ok_getter {P : Program} {w : World} {K : PySem.W.Frag} {mg : Str → Option Value} {base : Heap} {name qual fl : Str} {st : Stmt} {f C : Addr} {fd : FuncData} {p1 p2 p3 : Pos} (F : L2.Fun K name qual st f fd) (S : FnScope ["self"] ["self"] (defScope st)) (hb : defBody st = [.Return (some (.Attribute (.Name "self" p1) fl p2)) p3]) (c : Cls K C) (n : NoAttr K C fl) :
    FnOk P w K mg base CX0 1 f fd ["self"] (getSp C fl) := by
  obtain ⟨oc, od, kV, doc, pm, an, cdv, ct, osl, rfl, lk, hcd⟩ := F.ex
  exact fn_getter (k := 0) lk hcd S rfl hb c n
theorem bindsTo1 {K : PySem.W.Frag} {name qual x : Str} {st : Stmt} {f : Addr} {fd : FuncData} (F : L2.Fun K name qual st f fd)
    (h : ∀ (kV doc pm : Value) (an : Option Addr) (cdv ct u : Value), bindArgs (PySem.W.fnOf name qual (defArgs st) (defBody st) (defScope st) .none kV doc pm an cdv ct) ⟨[u], []⟩ = pure [(x, u)]) (s : Shared) (v : Value) : BindsTo s fd ⟨[v], []⟩ [(x, v)] := by
  obtain ⟨oc, od, kV, doc, pm, an, cdv, ct, osl, rfl, lk, hcd⟩ := F.ex
  exact .of_eq (h kV doc pm an cdv ct v)
/-! ### the run in parts: each part runs the module anew, so that less memory is in use at a time -/
section
open PySem.W PySem.Calls HandSHeadRun
variable {r : OpenRow} {M : Nat} {w : World} {os : OsState}
noncomputable abbrev endZ (r : OpenRow) (M : Nat) (w : World) (os : OsState) : Option SharedT := endF (stepQ (denQ tabQ) r.prog w) M r.prog w os
def LooksEq (r : OpenRow) (q : Program) (M : Nat) (loose : List PySem.Str) (w : World) : Prop := ∀ os : OsState, (endZ r M w os).map (fun s => (looksF r.prog (boot_heap w.params) s.abs, seenQ q loose (importedModules r.prog.main.body) (fun s => xlAt q [] s && recOk r.toRowW.records s) s.abs)) = some (true, openGood q loose)
theorem run_parts {q : Program} {H : Hook} {ob : SharedT → H.α} {loose : List PySem.Str} (h1 : LooksEq r q M loose w)
    (h2 : ∀ os : OsState, (endZ r M w os).map ob = some (H.val w)) : RunEq r q H ob M loose w := fun os => by
  obtain ⟨s, e, e1⟩ := Option.map_eq_some_iff.mp (h1 os)
  obtain ⟨s', e', e2⟩ := Option.map_eq_some_iff.mp (h2 os)
  rw [e] at e'
  cases e'
  refine Option.map_eq_some_iff.mpr ⟨s, e, ?_⟩
  simp only [Prod.mk.injEq] at e1 ⊢
  exact ⟨e1.1, e1.2, e2⟩
theorem obs_join {n : Nat} {more : List Addr} {fa fb : List (Frag → Bool)} {fn fm : List Df} (h1 : (endZ r M w os).map (fun s => obsZG n more fa fn (getT s)) = some (valY fn)) (h2 : (endZ r M w os).map (fun s => obsZG n more fb fm (getT s)) = some (valY fm)) : (endZ r M w os).map (fun s => obsZG n more (fa ++ fb) (fn ++ fm) (getT s)) = some (valY (fn ++ fm)) := by
  obtain ⟨s, e, e1⟩ := Option.map_eq_some_iff.mp h1
  obtain ⟨s', e', e2⟩ := Option.map_eq_some_iff.mp h2
  rw [e] at e'
  cases e'
  refine Option.map_eq_some_iff.mpr ⟨s, e, ?_⟩
  unfold obsZG obsY valY at *
  simp only [Prod.mk.injEq] at e1 e2 ⊢
  obtain ⟨a1, a2⟩ := e1
  obtain ⟨b1, b2⟩ := e2
  obtain ⟨a3, a4⟩ := Bool.and_eq_true_iff.mp a1
  obtain ⟨b3, b4⟩ := Bool.and_eq_true_iff.mp b1
  refine ⟨?_, ?_⟩
  · rw [List.all_append, List.all_append, a3, b3, a4, b4]; rfl
  · rw [List.map_append, a2, b2, valsY_eq, valsY_eq, valsY_eq, List.map_append]
end
end Fx

namespace Pr
open PySem L2 Fx Mt
def top (i : Nat) : Stmt := PySem.Challenge.pw_countcycles_k02_texts_of_tables.main.body.getD i (.Pass ⟨0, 0, 0, 0⟩)
/-- the built-in names that the text uses -/
def bnames : List Str := ["len", "range", "sorted", "set", "max", "min", "list", "tuple", "str", "int", "isinstance", "zip", "enumerate", "all", "bool", "repr", "sum", "any"]
structure Tx (mg : Str → Option Value) : Prop where
  bi : ∀ n ∈ bnames, mg n = none
  SETTLES : ∃ t, mg "SETTLES" = some (.str "settles" t)
  WITHIN : ∃ t, mg "WITHIN" = some (.str "within" t)
  MOST_WIDTH : ∃ t, mg "MOST_WIDTH" = some (.int 6 t)
section
variable {mg : Str → Option Value}
theorem Tx.len (T : Tx mg) : mg "len" = none := T.bi _ (by decide +kernel)
theorem Tx.range (T : Tx mg) : mg "range" = none := T.bi _ (by decide +kernel)
theorem Tx.sorted (T : Tx mg) : mg "sorted" = none := T.bi _ (by decide +kernel)
theorem Tx.set (T : Tx mg) : mg "set" = none := T.bi _ (by decide +kernel)
theorem Tx.max (T : Tx mg) : mg "max" = none := T.bi _ (by decide +kernel)
theorem Tx.min (T : Tx mg) : mg "min" = none := T.bi _ (by decide +kernel)
theorem Tx.list (T : Tx mg) : mg "list" = none := T.bi _ (by decide +kernel)
theorem Tx.tuple (T : Tx mg) : mg "tuple" = none := T.bi _ (by decide +kernel)
theorem Tx.str (T : Tx mg) : mg "str" = none := T.bi _ (by decide +kernel)
theorem Tx.int (T : Tx mg) : mg "int" = none := T.bi _ (by decide +kernel)
theorem Tx.isinstance (T : Tx mg) : mg "isinstance" = none := T.bi _ (by decide +kernel)
theorem Tx.zip (T : Tx mg) : mg "zip" = none := T.bi _ (by decide +kernel)
theorem Tx.enumerate (T : Tx mg) : mg "enumerate" = none := T.bi _ (by decide +kernel)
theorem Tx.all (T : Tx mg) : mg "all" = none := T.bi _ (by decide +kernel)
theorem Tx.bool (T : Tx mg) : mg "bool" = none := T.bi _ (by decide +kernel)
theorem Tx.repr (T : Tx mg) : mg "repr" = none := T.bi _ (by decide +kernel)
theorem Tx.sum (T : Tx mg) : mg "sum" = none := T.bi _ (by decide +kernel)
theorem Tx.any (T : Tx mg) : mg "any" = none := T.bi _ (by decide +kernel)
end
def encP (p : Int × Int) : D := .tup [.int p.1, .int p.2]
def optW : Option (List Int) → D
  | none => .non
  | some w => .tup (w.map .int)
def encW (w : List Int) : D := .tup (w.map .int)
def encR (r : R) : D := .tup [.str (kS r.1), .int r.2.1, .int r.2.2]
theorem kS_settles (k : Bool) : decide (kS k = "settles") = k := by cases k <;> decide +kernel
theorem kS_eq (k j : Bool) : decide (kS k = kS j) = decide (k = j) := by cases k <;> cases j <;> decide +kernel
def Seq (d : D) (ds : List D) : Prop := d = .lst ds ∨ d = .tup ds
def C_shortest : List D → Out → Prop := fun ds o => ∃ (ps : List (Int × Int)) (a b : Int), ds = [.lst (ps.map encP), .int a, .int b] ∧ ps.length < 64 ∧ o = .val (optW (short ps a b))
def C_leads : List D → Out → Prop := fun ds o => ∃ (ps : List (Int × Int)) (a b : Int), ds = [.lst (ps.map encP), .int a, .int b] ∧ ps.length < 64 ∧ o = .val (.bl (short ps a b).isSome)
def C_downs : List D → Out → Prop := fun ds o => ∃ (q : D) (rs : List R), ds = [q] ∧ Seq q (rs.map encR) ∧ rs.length < 64 ∧ o = .new ((dns rs).map encP)
def C_ring_of : List D → Out → Prop := fun ds o => ∃ (q : D) (rs : List R) (k : Bool) (a b : Int), ds = [q, .str (kS k), .int a, .int b] ∧ Seq q (rs.map encR) ∧ rs.length < 64 ∧ o = .val (optW (ring rs k a b))
def C_arrows : List D → Out → Prop := fun ds o => ∃ (q : D) (rs : List R) (k : Bool), ds = [q, .str (kS k)] ∧ Seq q (rs.map encR) ∧ rs.length < 64 ∧ o = .new ((arr rs k).map encP)
def C_follows : List D → Out → Prop := fun ds o => ∃ (q : D) (rs : List R) (r : R), ds = [q, encR r] ∧ Seq q (rs.map encR) ∧ rs.length < 64 ∧ (arr rs r.1).length < 64 ∧ o = .val (.bl (fol rs r))
theorem isN_optW (o : Option (List Int)) : (!isN (optW o)) = o.isSome := by cases o <;> rfl
theorem eqD_str (s t : Str) : eqD (.str s) (.str t) = decide (s = t) := by
  show (s == t) = _
  by_cases h : s = t
  · rw [decide_eq_true h, h]; exact beq_self_eq_true _
  · rw [decide_eq_false h]; exact beq_eq_false_iff_ne.mpr h
theorem eqD_encR (r s : R) : eqD (encR r) (encR s) = decide (r = s) := by
  obtain ⟨k, a, b⟩ := r
  obtain ⟨k2, a2, b2⟩ := s
  have e : eqD (encR (k, a, b)) (encR (k2, a2, b2)) = (eqD (.str (kS k)) (.str (kS k2)) && (eqD (.int a) (.int a2) && (eqD (.int b) (.int b2) && true))) := rfl
  rw [e, eqD_str, kS_eq, eqD_int, eqD_int]
  simp [Prod.ext_iff]
  rfl
theorem kS_lay (k : Bool) : PyData.canLay0 (.str (kS k)) = true := by cases k <;> decide +kernel
theorem encR_fine (r : R) : Fx.plain (encR r) = true ∧ deep (encR r) ≤ 1 := ⟨by
  show (PyData.canLay0 (.str (kS r.1)) && (true && (true && true))) = true
  rw [kS_lay]; rfl, by show max 0 (max 0 (max 0 0)) + 1 ≤ 1; decide⟩
theorem fine_encR (r : R) : fine (encR r) := ⟨(encR_fine r).1, Nat.le_trans (encR_fine r).2 (by decide)⟩
theorem fine_encRs (rs : List R) : fine (.lst (rs.map encR)) := fine_lst fun d hd => by
  obtain ⟨v, _, rfl⟩ := List.mem_map.mp hd
  exact ⟨(encR_fine v).1, Nat.le_trans (encR_fine v).2 (by decide)⟩
theorem fine_encRt (rs : List R) : fine (.tup (rs.map encR)) := fine_tup fun d hd => by
  obtain ⟨v, _, rfl⟩ := List.mem_map.mp hd
  exact ⟨(encR_fine v).1, Nat.le_trans (encR_fine v).2 (by decide)⟩
theorem any_encR (r : R) (rs : List R) : ((rs.map encR).any fun z => eqD z (encR r)) = decide (r ∈ rs) := by
  induction rs with
  | nil => rfl
  | cons s rs ih =>
    rw [List.map_cons, List.any_cons, ih, eqD_encR]
    simp only [List.mem_cons, Bool.decide_or]
    congr 1
    exact decide_eq_decide.mpr ⟨Eq.symm, Eq.symm⟩
theorem count_encR (r : R) (rs : List R) : ((rs.map encR).countP fun z => eqD z (encR r)) = rs.count r := by
  induction rs with
  | nil => rfl
  | cons s rs ih =>
    rw [List.map_cons, List.countP_cons, ih, eqD_encR, List.count_cons]
    simp
theorem count_one {rs : List R} (h : rs.Nodup) {r : R} (hr : r ∈ rs) : rs.count r = 1 := by
  have h1 := List.nodup_iff_count.mp h r
  have h2 := List.count_pos_iff.mpr hr
  omega
theorem _root_.Mt.Ok.filter {w : Int} {rs : List R} (h : Ok w rs) (f : R → Bool) : Ok w (rs.filter f) := ⟨h.nd.filter f, fun r hr => h.lo r ((List.mem_filter.mp hr).1)⟩
theorem _root_.Mt.Ok.arr {w : Int} {rs : List R} (h : Ok w rs) (hw : w ≤ 6) (k : Bool) : (Mt.arr rs k).length < 64 := by
  have h1 := arr_len rs k
  have h2 := h.kind hw k
  omega
/-- a list of rules, as an object -/
def encK (w : Int) (rs : List R) : D := .obj 0 [.int w, .ptup (rs.map encR)]
def okR (w : Int) (r : R) : Bool := (decide (0 ≤ r.2.1) && decide (r.2.1 ≤ w - 1)) && ((decide (0 ≤ r.2.2) && decide (r.2.2 ≤ w - 1)) && !decide (r.2.1 = r.2.2))
theorem Ok.okR {w : Int} {rs : List R} (h : Ok w rs) {r : R} (hr : r ∈ rs) : okR w r = true := by
  have := h.lo r hr
  unfold Pr.okR
  simp
  omega
/-- what is known of the class -/
structure RC (G : Gx) (mg : Str → Option Value) : Prop where
  fld : G.fld 0 = [("columns" : Str), "kept"]
  cl : Cls G.K (G.cls 0)
  n1 : NoAttr G.K (G.cls 0) "columns"
  n2 : NoAttr G.K (G.cls 0) "kept"
  nm : mg "Rules" = some (.ref (G.cls 0))
  ty : ∀ a dx fs, TyOf G.K (fun b => if b = a then some (.ins (G.cls 0) dx fs) else none) (.ref a) (.ref (G.cls 0))
  kit : PySem.W.kitOne G.K (.ref (G.cls 0)) (.ref (G.cls 0)) = some true
def C_is_integer : List D → Out → Prop := fun ds o => ∃ i : Int, ds = [.int i] ∧ o = .val (.bl true)
def C_is_between : List D → Out → Prop := fun ds o => ∃ i a b : Int, ds = [.int i, .int a, .int b] ∧ o = .val (.bl (decide (a ≤ i) && decide (i ≤ b)))
def C_need_width : List D → Out → Prop := fun ds o => ∃ i : Int, ds = [.int i] ∧ 1 ≤ i ∧ i ≤ 6 ∧ o = .val .non
def C_is_column : List D → Out → Prop := fun ds o => ∃ i w : Int, ds = [.int i, .int w] ∧ o = .val (.bl (decide (0 ≤ i) && decide (i ≤ w - 1)))
def C_is_rule : List D → Out → Prop := fun ds o => ∃ (r : R) (w : Int), ds = [encR r, .int w] ∧ o = .val (.bl (okR w r))
def C_need_rule : List D → Out → Prop := fun ds o => ∃ (r : R) (w : Int), ds = [encR r, .int w] ∧ okR w r = true ∧ o = .val .non
def C_are_rules : List D → Out → Prop := fun ds o => ∃ (q : D) (rs : List R) (w : Int), ds = [q, .int w] ∧ (q = .lst (rs.map encR) ∨ q = .ptup (rs.map encR)) ∧ Ok w rs ∧ rs.length < 64 ∧ o = .val (.bl true)
def C_column_of : List D → Out → Prop := fun ds o => ∃ a : Nat, ds = [.str (nS (a : Int))] ∧ a < 6 ∧ o = .val (.int (a : Int))
def C_rule_of : List D → Out → Prop := fun ds o => ∃ (w : Int) (rs : List R) (r : R), ds = [.str (lnS r)] ∧ Ok w rs ∧ w ≤ 6 ∧ r ∈ rs ∧ o = .val (encR r)
def C_init : List D → List D → Prop := fun ds fs => ∃ (w : Int) (rs : List R), ds = .int w :: rs.map encR ∧ Ok w rs ∧ 1 ≤ w ∧ w ≤ 6 ∧ fs = [.int w, .ptup (rs.map encR)]
def C_read : List D → Out → Prop := fun ds o => ∃ (w : Int) (rs : List R), ds = [.cls 0, .int w, .str (textOf rs)] ∧ Ok w rs ∧ 1 ≤ w ∧ w ≤ 6 ∧ o = .val (encK w rs)
def C_text : List D → Out → Prop := fun ds o => ∃ (w : Int) (rs : List R), ds = [encK w rs] ∧ Ok w rs ∧ w ≤ 6 ∧ o = .val (.str (textOf rs))
def C_need_rules : List D → Out → Prop := fun ds o => ∃ (w : Int) (rs : List R), ds = [encK w rs] ∧ o = .val .non
def lea (rs : List R) : List R := rs.reverse.foldl (fun kept r => if fol (kept.filter fun o => !decide (o = r)) r = true then kept.filter fun o => !decide (o = r) else kept) rs
def C_least : List D → Out → Prop := fun ds o => ∃ (w : Int) (rs : List R), ds = [encK w rs] ∧ Ok w rs ∧ 1 ≤ w ∧ w ≤ 6 ∧ o = .val (encK w (lea rs))
end Pr


namespace Pr
open PySem L2 Fx Mt
abbrev s_is_integer : Stmt := top 16
section
variable {P : Program} {w : World} {G : Gx} {mg : Str → Option Value} {base : Heap}
theorem sc_is_integer : FnScope ["thing"] ["thing"] (defScope s_is_integer) := ⟨rfl, rfl, rfl, by decide +kernel, rfl, by decide +kernel, by decide +kernel⟩
theorem ok_is_integer {f : Addr} {fd : FuncData} (F : L2.Fun G.K "is_integer" "is_integer" s_is_integer f fd) (hb : Binds G.K fd ["thing"] []) (T : Tx mg) : FnR P w G.K mg base CX0 1 f (sp0 G C_is_integer) := by
  refine fn0 F sc_is_integer hb (fun ds o ⟨i, e, _⟩ => by rw [e]; rfl) (by decide) fun cdv A outer s H E hr ds o hC => ?_
  obtain ⟨i, rfl, rfl⟩ := hC
  refine sx_one (sx_ret (ev_and (ev_isi (t := "int") (T' := "int") (k := true) (ev_var 0 rfl rfl (.inl rfl)) rfl (by decide +kernel) T.isinstance rfl T.int rfl (by decide +kernel)) fun _ => (ev_one (ev_not (ev_isi (t := "int") (T' := "bool") (k := false) (ev_var 0 rfl rfl (.inl rfl)) rfl (by decide +kernel) T.isinstance rfl T.bool rfl (by decide +kernel))))) rfl)
end
end Pr
namespace Pr
open PySem L2 Fx Mt
abbrev s_is_between : Stmt := top 17
section
variable {P : Program} {w : World} {G : Gx} {mg : Str → Option Value} {base : Heap}
theorem sc_is_between : FnScope ["thing", "low", "high"] ["thing", "low", "high"] (defScope s_is_between) := ⟨rfl, rfl, rfl, by decide +kernel, rfl, by decide +kernel, by decide +kernel⟩
theorem ok_is_between {f : Addr} {fd : FuncData} (F : L2.Fun G.K "is_between" "is_between" s_is_between f fd) (hb : Binds G.K fd ["thing", "low", "high"] []) (F_is_integer : Fn0 G P w mg base 1 "is_integer" C_is_integer) : FnR P w G.K mg base CX0 2 f (sp0 G C_is_between) := by
  refine fn0 F sc_is_between hb (fun ds o ⟨i, a, b, e, _⟩ => by rw [e]; rfl) (by decide) fun cdv A outer s H E hr ds o hC => ?_
  obtain ⟨i, a, b, rfl, rfl⟩ := hC
  refine sx_one (sx_ret (ev_and (ev_fn0 F_is_integer hr (by decide) (evv_cons (ev_var 0 rfl rfl (.inl rfl)) evv_nil) ⟨i, rfl, rfl⟩ rfl) fun _ => (ev_one (ev_cc c_le (fun _ => c_le) (ev_var 1 rfl rfl (.inl rfl)) (ev_var 0 rfl rfl (.inl rfl)) (ev_var 2 rfl rfl (.inl rfl)) pe_chain))) rfl)
end
end Pr
namespace Pr
open PySem L2 Fx Mt
abbrev s_need_width : Stmt := top 18
section
variable {P : Program} {w : World} {G : Gx} {mg : Str → Option Value} {base : Heap}
theorem sc_need_width : FnScope ["thing"] ["thing"] (defScope s_need_width) := ⟨rfl, rfl, rfl, by decide +kernel, rfl, by decide +kernel, by decide +kernel⟩
theorem ok_need_width {f : Addr} {fd : FuncData} (F : L2.Fun G.K "need_width" "need_width" s_need_width f fd) (hb : Binds G.K fd ["thing"] []) (T : Tx mg) (F_is_between : Fn0 G P w mg base 2 "is_between" C_is_between) : FnR P w G.K mg base CX0 3 f (sp0 G C_need_width) := by
  refine fn0 F sc_need_width hb (fun ds o ⟨i, e, _⟩ => by rw [e]; rfl) (by decide) fun cdv A outer s H E hr ds o hC => ?_
  obtain ⟨i, rfl, h1, h2, rfl⟩ := hC
  refine sx_one (sx_if (et_not (et_val (ev_fn0 F_is_between hr (by decide) (evv_cons (ev_var 0 rfl rfl (.inl rfl)) (evv_cons ev_int (evv_cons (ev_gint rfl T.MOST_WIDTH) evv_nil))) ⟨i, 1, 6, rfl, rfl⟩ rfl))) (fun hb => ?_) (fun hb => ?_))
  · exfalso
    simp [h1, h2] at hb
  · exact sx_nil rfl
end
end Pr
namespace Pr
open PySem L2 Fx Mt
abbrev s_is_column : Stmt := top 19
section
variable {P : Program} {w : World} {G : Gx} {mg : Str → Option Value} {base : Heap}
theorem sc_is_column : FnScope ["thing", "width"] ["thing", "width"] (defScope s_is_column) := ⟨rfl, rfl, rfl, by decide +kernel, rfl, by decide +kernel, by decide +kernel⟩
theorem ok_is_column {f : Addr} {fd : FuncData} (F : L2.Fun G.K "is_column" "is_column" s_is_column f fd) (hb : Binds G.K fd ["thing", "width"] []) (F_is_between : Fn0 G P w mg base 2 "is_between" C_is_between) : FnR P w G.K mg base CX0 3 f (sp0 G C_is_column) := by
  refine fn0 F sc_is_column hb (fun ds o ⟨i, w, e, _⟩ => by rw [e]; rfl) (by decide) fun cdv A outer s H E hr ds o hC => ?_
  obtain ⟨i, w, rfl, rfl⟩ := hC
  refine sx_one (sx_ret (ev_fn0 F_is_between hr (by decide) (evv_cons (ev_var 0 rfl rfl (.inl rfl)) (evv_cons ev_int (evv_cons (ev_b b_sub (ev_var 1 rfl rfl (.inl rfl)) ev_int) evv_nil))) ⟨i, 0, w - 1, rfl, rfl⟩ rfl) rfl)
end
end Pr
namespace Pr
open PySem L2 Fx Mt
abbrev s_is_rule : Stmt := top 20
section
variable {P : Program} {w : World} {G : Gx} {mg : Str → Option Value} {base : Heap}
theorem sc_is_rule : FnScope ["thing", "width"] ["thing", "width"] (defScope s_is_rule) := ⟨rfl, rfl, rfl, by decide +kernel, rfl, by decide +kernel, by decide +kernel⟩
theorem kS_two (k : Bool) : (!decide (kS k = "settles") && !decide (kS k = "within")) = false := by cases k <;> decide +kernel
theorem ok_is_rule {f : Addr} {fd : FuncData} (F : L2.Fun G.K "is_rule" "is_rule" s_is_rule f fd) (hb : Binds G.K fd ["thing", "width"] []) (T : Tx mg) (F_is_column : Fn0 G P w mg base 3 "is_column" C_is_column) : FnR P w G.K mg base CX0 4 f (sp0 G C_is_rule) := by
  refine fn0 F sc_is_rule hb (fun ds o ⟨i, w, e, _⟩ => by rw [e]; rfl) (by decide) fun cdv A outer s H E hr ds o hC => ?_
  obtain ⟨r, w, rfl, rfl⟩ := hC
  refine sx_cons (sx_if (et_w (ew_or (et_not (et_val (ev_isi (t := "tuple") (T' := "tuple") (k := true) (ev_var 0 rfl rfl (.inl rfl)) rfl (by decide +kernel) T.isinstance rfl T.tuple rfl (by decide +kernel)))) fun _ => (ew_or (et_c c_ne (ev_lenT (ev_var 0 rfl rfl (.inl rfl)) T.len rfl) ev_int) fun _ => (ew_or1 (et_not (et_val (ev_isi (t := "str") (T' := "str") (k := true) (ev_i (i_tup (m := 0) rfl rfl) (ev_var 0 rfl rfl (.inl rfl)) ev_int) rfl (by decide +kernel) T.isinstance rfl T.str rfl (by decide +kernel)))))))) (fun hb => ?_) (fun hb => ?_))
  · cases hb
  refine sx_nil ?_
  refine sx_cons (sx_if (et_w (ew_and (et_c c_neS (ev_i (i_tup (m := 0) rfl rfl) (ev_var 0 rfl rfl (.inl rfl)) ev_int) (ev_gstr rfl T.SETTLES)) fun _ => (ew_and1 (et_c c_neS (ev_i (i_tup (m := 0) rfl rfl) (ev_var 0 rfl rfl (.inl rfl)) ev_int) (ev_gstr rfl T.WITHIN))))) (fun hb => ?_) (fun hb => ?_))
  · rw [kS_two] at hb; cases hb
  refine sx_nil ?_
  refine sx_one (sx_ret (ev_and (ev_fn0 F_is_column hr (by decide) (evv_cons (ev_i (i_tup (m := 1) rfl rfl) (ev_var 0 rfl rfl (.inl rfl)) ev_int) (evv_cons (ev_var 1 rfl rfl (.inl rfl)) evv_nil)) ⟨r.2.1, w, rfl, rfl⟩ rfl) fun _ => (ev_and (ev_fn0 F_is_column hr (by decide) (evv_cons (ev_i (i_tup (m := 2) rfl rfl) (ev_var 0 rfl rfl (.inl rfl)) ev_int) (evv_cons (ev_var 1 rfl rfl (.inl rfl)) evv_nil)) ⟨r.2.2, w, rfl, rfl⟩ rfl) fun _ => (ev_one (ev_c c_ne (ev_i (i_tup (m := 1) rfl rfl) (ev_var 0 rfl rfl (.inl rfl)) ev_int) (ev_i (i_tup (m := 2) rfl rfl) (ev_var 0 rfl rfl (.inl rfl)) ev_int))))) rfl)
end
end Pr
namespace Pr
open PySem L2 Fx Mt
abbrev s_need_rule : Stmt := top 21
section
variable {P : Program} {w : World} {G : Gx} {mg : Str → Option Value} {base : Heap}
theorem sc_need_rule : FnScope ["thing", "width"] ["thing", "width"] (defScope s_need_rule) := ⟨rfl, rfl, rfl, by decide +kernel, rfl, by decide +kernel, by decide +kernel⟩
theorem ok_need_rule {f : Addr} {fd : FuncData} (F : L2.Fun G.K "need_rule" "need_rule" s_need_rule f fd) (hb : Binds G.K fd ["thing", "width"] []) (F_is_rule : Fn0 G P w mg base 4 "is_rule" C_is_rule) : FnR P w G.K mg base CX0 5 f (sp0 G C_need_rule) := by
  refine fn0 F sc_need_rule hb (fun ds o ⟨i, w, e, _⟩ => by rw [e]; rfl) (by decide) fun cdv A outer s H E hr ds o hC => ?_
  obtain ⟨r, w, rfl, h1, rfl⟩ := hC
  refine sx_one (sx_if (et_not (et_val (ev_fn0 F_is_rule hr (by decide) (evv_cons (ev_var 0 rfl rfl (.inl rfl)) (evv_cons (ev_var 1 rfl rfl (.inl rfl)) evv_nil)) ⟨r, w, rfl, rfl⟩ rfl))) (fun hb => ?_) (fun hb => ?_))
  · rw [h1] at hb; cases hb
  · exact sx_nil rfl
end
end Pr


namespace Pr
def ocs : List Nat := [0, 1]
end Pr
namespace Pr
open PySem L2 Fx Mt Mu
def Ocs (G : Gx) : Prop := ∀ c ∈ ocs, Oc G c
abbrev Kv (d : D) : Prop := Kn ocs d
def isInt : D → Bool
  | .int _ => true
  | _ => false
def betw (d : D) (lo hi : Int) : Bool := match d with
  | .int i => decide (lo ≤ i) && decide (i ≤ hi)
  | _ => false
theorem betw_int {d : D} {lo hi : Int} (h : betw d lo hi = true) : ∃ i, d = .int i ∧ lo ≤ i ∧ i ≤ hi := by
  unfold betw at h
  split at h
  · rename_i i
    rw [Bool.and_eq_true] at h
    exact ⟨i, rfl, of_decide_eq_true h.1, of_decide_eq_true h.2⟩
  · cases h
theorem isInt_eq (d : D) : (isK "int" d && !isK "bool" d) = isInt d := by
  have h : ∀ t ∈ oddT, (decide (kitB t "int" = some true) && !decide (kitB t "bool" = some true)) = decide (t = "int") := by decide +kernel
  cases d with
  | non => exact h "NoneType" (by decide)
  | bl b => exact h "bool" (by decide)
  | int i => exact h "int" (by decide)
  | str x => exact h "str" (by decide)
  | tup xs => exact h "tuple" (by decide)
  | lst xs => exact h "list" (by decide)
  | emp => exact h "dict" (by decide)
  | obj c xs => rfl
  | scr ns => rfl
  | ptup xs => exact h "tuple" (by decide)
  | cls c => rfl
theorem isK_tup (xs : List D) : (!isK "tuple" (.tup xs)) = false := (by decide +kernel : (!decide (kitB "tuple" "tuple" = some true)) = false)
theorem isK_notT {d : D} (h : isK "tuple" d = false) (xs : List D) : d ≠ .tup xs := fun e => by
  subst e
  have := isK_tup xs
  rw [h] at this
  cases this
theorem isK_str {d : D} (h : isK "str" d = true) : ∃ u, d = .str u := by
  have hn : ∀ t ∈ oddT, t ≠ "str" → decide (kitB t "str" = some true) = false := by decide +kernel
  cases d with
  | str x => exact ⟨x, rfl⟩
  | non => exact absurd h (by rw [show isK "str" .non = _ from hn "NoneType" (by decide) (by decide)]; decide)
  | bl b => exact absurd h (by rw [show isK "str" (.bl b) = _ from hn "bool" (by decide) (by decide)]; decide)
  | int i => exact absurd h (by rw [show isK "str" (.int i) = _ from hn "int" (by decide) (by decide)]; decide)
  | tup xs => exact absurd h (by rw [show isK "str" (.tup xs) = _ from hn "tuple" (by decide) (by decide)]; decide)
  | lst xs => exact absurd h (by rw [show isK "str" (.lst xs) = _ from hn "list" (by decide) (by decide)]; decide)
  | emp => exact absurd h (by rw [show isK "str" .emp = _ from hn "dict" (by decide) (by decide)]; decide)
  | obj c xs => cases h
  | scr ns => cases h
  | ptup xs => exact absurd h (by rw [show isK "str" (.ptup xs) = _ from hn "tuple" (by decide) (by decide)]; decide)
  | cls c => cases h
theorem isK_strT (u : Str) : isK "str" (.str u) = true := (by decide +kernel : decide (kitB "str" "str" = some true) = true)
theorem betw_not {d : D} (h : isInt d = false) (lo hi : Int) : betw d lo hi = false := by
  cases d <;> first | rfl | cases h
def eqI : D → D → Bool
  | .int i, .int j => decide (i = j)
  | _, _ => false
def isKind (d : D) : Bool := match d with
  | .str s => decide (s = "settles") || decide (s = "within")
  | _ => false
def isRule (w : Int) (d : D) : Bool := match d with
  | .tup [k, a, b] => isKind k && (betw a 0 (w - 1) && (betw b 0 (w - 1) && !eqI a b))
  | _ => false
/-- what is_rule may be asked of -/
def Kd (d : D) : Prop := (Kv d ∧ isK "tuple" d = false) ∨ ∃ xs, d = .tup xs ∧ ∀ x ∈ xs, Kv x
theorem kv_int (i : Int) : Kv (.int i) := .inl ⟨_, rfl, by decide⟩
theorem kv_str (s : Str) : Kv (.str s) := .inl ⟨_, rfl, by decide⟩
theorem isRule_encR {w : Int} {d : D} (h : isRule w d = true) : ∃ r : R, d = encR r ∧ okR w r = true := by
  unfold isRule at h
  split at h
  · rename_i k a b
    rw [Bool.and_eq_true, Bool.and_eq_true, Bool.and_eq_true] at h
    obtain ⟨h1, h2, h3, h4⟩ := h
    obtain ⟨i, rfl, i0, i1⟩ := betw_int h2
    obtain ⟨j, rfl, j0, j1⟩ := betw_int h3
    have hne : i ≠ j := by simpa [eqI] using h4
    unfold isKind at h1
    split at h1
    · rename_i s
      have hs : s = kS (decide (s = "settles")) := by
        rcases Bool.or_eq_true_iff.mp h1 with z | z
        · have := of_decide_eq_true z
          subst this
          decide +kernel
        · have := of_decide_eq_true z
          subst this
          decide +kernel
      refine ⟨(decide (s = "settles"), i, j), ?_, ?_⟩
      · unfold encR
        rw [← hs]
      · unfold okR
        simp
        omega
    · cases h1
  · cases h
theorem isRule_of {w : Int} (r : R) : isRule w (encR r) = okR w r := by
  obtain ⟨k, a, b⟩ := r
  have hk : isKind (.str (kS k)) = true := by cases k <;> decide +kernel
  show (isKind (.str (kS k)) && (betw (.int a) 0 (w - 1) && (betw (.int b) 0 (w - 1) && !eqI (.int a) (.int b)))) = _
  rw [hk]
  rfl
def C_is_integerX : List D → Out → Prop := fun ds o => ∃ d : D, ds = [d] ∧ Kv d ∧ o = .val (.bl (isInt d))
def C_is_betweenX : List D → Out → Prop := fun ds o => ∃ (d : D) (a b : Int), ds = [d, .int a, .int b] ∧ Kv d ∧ o = .val (.bl (betw d a b))
def CX_need_width : List D → Out ⊕ Nat → Prop := fun ds o => ∃ d : D, ds = [d] ∧ Kv d ∧ o = if betw d 1 6 = true then .inl (.val .non) else .inr 11
def C_is_columnX : List D → Out → Prop := fun ds o => ∃ (d : D) (w : Int), ds = [d, .int w] ∧ Kv d ∧ o = .val (.bl (betw d 0 (w - 1)))
def C_is_ruleX : List D → Out → Prop := fun ds o => ∃ (d : D) (w : Int), ds = [d, .int w] ∧ Kd d ∧ o = .val (.bl (isRule w d))
def areR (w : Int) (ds : List D) : Bool := ds.all (isRule w) && ds.all fun d => decide (((ds.countP fun z => eqD z d : Nat) : Int) = 1)
def C_are_rulesX : List D → Out → Prop := fun ds o => ∃ (q : D) (xs : List D) (w : Int), ds = [q, .int w] ∧ (q = .lst xs ∨ q = .ptup xs) ∧ (∀ d ∈ xs, Kd d) ∧ xs.length ≤ 100000 ∧ o = .val (.bl (areR w xs))
theorem areR_encR {w : Int} (rs : List R) : areR w (rs.map encR) = (rs.all (okR w) && decide rs.Nodup) := by
  unfold areR
  rw [List.all_map, List.all_map]
  congr 1
  · congr 1
    funext r
    exact isRule_of r
  · rw [Bool.eq_iff_iff, List.all_eq_true, decide_eq_true_eq]
    have hc : ∀ r : R, ((rs.map encR).countP fun z => eqD z (encR r)) = rs.count r := fun r => count_encR r rs
    constructor
    · intro h
      refine List.nodup_iff_count.mpr fun r => ?_
      by_cases hr : r ∈ rs
      · have := h r hr
        simp only [Function.comp_apply, decide_eq_true_eq] at this
        rw [hc] at this
        omega
      · rw [List.count_eq_zero.mpr hr]; omega
    · intro h r hr
      simp only [Function.comp_apply, decide_eq_true_eq]
      rw [hc, count_one h hr]
      rfl
theorem all_rules {w : Int} : ∀ {ds : List D}, ds.all (isRule w) = true → ∃ rs : List R, ds = rs.map encR ∧ ∀ r ∈ rs, okR w r = true
  | [], _ => ⟨[], rfl, fun r hr => nomatch hr⟩
  | d :: ds, h => by
    rw [List.all_cons, Bool.and_eq_true] at h
    obtain ⟨r, rfl, hr⟩ := isRule_encR h.1
    obtain ⟨rs, rfl, h2⟩ := all_rules h.2
    refine ⟨r :: rs, rfl, fun s hs => ?_⟩
    rcases List.mem_cons.mp hs with rfl | hs
    · exact hr
    · exact h2 s hs
end Pr
namespace Pr
open PySem L2 Fx Mt Mu
section
variable {P : Program} {w : World} {G : Gx} {mg : Str → Option Value} {base : Heap}
theorem ok_Xis_integer {f : Addr} {fd : FuncData} (F : L2.Fun G.K "is_integer" "is_integer" s_is_integer f fd) (hb : Binds G.K fd ["thing"] []) (T : Tx mg) (HO : Ocs G) : FnR P w G.K mg base CX0 1 f (sp0 G C_is_integerX) := by
  refine fn0 F sc_is_integer hb (fun ds o ⟨i, e, _⟩ => by rw [e]; rfl) (by decide) fun cdv A outer s H E hr ds o hC => ?_
  obtain ⟨d, rfl, hd, rfl⟩ := hC
  exact sx_one (sx_ret (ev_is (ev_and (ev_isK (T' := "int") (ev_v 0 rfl) hd HO (by decide) T.isinstance rfl T.int rfl (by decide +kernel)) fun _ => ev_one (ev_not (ev_isK (T' := "bool") (ev_v 0 rfl) hd HO (by decide) T.isinstance rfl T.bool rfl (by decide +kernel)))) (congrArg D.bl (isInt_eq d))) rfl)
theorem ok_Xis_between {f : Addr} {fd : FuncData} (F : L2.Fun G.K "is_between" "is_between" s_is_between f fd) (hb : Binds G.K fd ["thing", "low", "high"] []) (F_int : Fn0 G P w mg base 1 "is_integer" C_is_integerX) : FnR P w G.K mg base CX0 2 f (sp0 G C_is_betweenX) := by
  refine fn0 F sc_is_between hb (fun ds o ⟨i, a, b, e, _⟩ => by rw [e]; rfl) (by decide) fun cdv A outer s H E hr ds o hC => ?_
  obtain ⟨d, a, b, rfl, hd, rfl⟩ := hC
  cases hi : isInt d with
  | false =>
    refine sx_one (sx_ret (ev_andF (ev_is (ev_fn0 F_int hr (by decide) (evv_cons (ev_v 0 rfl) evv_nil) ⟨d, rfl, hd, rfl⟩ rfl) (congrArg D.bl hi))) ?_)
    show _ = D.bl _
    rw [betw_not hi]
  | true =>
    obtain ⟨i, rfl⟩ : ∃ i, d = .int i := by cases d <;> first | exact ⟨_, rfl⟩ | cases hi
    exact sx_one (sx_ret (ev_andT (ev_fn0 F_int hr (by decide) (evv_cons (ev_v 0 rfl) evv_nil) ⟨_, rfl, hd, rfl⟩ rfl) (ev_one (ev_cc c_le (fun _ => c_le) (ev_v 1 rfl) (ev_v 0 rfl) (ev_v 2 rfl) pe_chain))) rfl)
end
end Pr
namespace Pr
open PySem L2 Fx Mt Mu
section
variable {P : Program} {w : World} {G : Gx} {mg : Str → Option Value} {base : Heap}
theorem ok_Xneed_width {f : Addr} {fd : FuncData} (F : L2.Fun G.K "need_width" "need_width" s_need_width f fd) (hb : Binds G.K fd ["thing"] []) (T : Tx mg) (X11 : XC G mg 11 "NoWidth") (F_is_between : Fn0 G P w mg base 2 "is_between" C_is_betweenX) : FnR P w G.K mg base (L2.CX P w) 3 f (spX G CX_need_width) := by
  refine fnX F sc_need_width hb (fun ds o ⟨i, e, _⟩ => by rw [e]; rfl) (by decide) fun cdv A outer s H E hr ds o hC => ?_
  obtain ⟨d, rfl, hd, rfl⟩ := hC
  refine xs_one (xs_if (et_not (et_val (ev_fn0 F_is_between hr (by decide) (evv_cons (ev_v 0 rfl) (evv_cons ev_int (evv_cons (ev_gint rfl T.MOST_WIDTH) evv_nil))) ⟨d, 1, 6, rfl, hd, rfl⟩ rfl))) (fun hb => ?_) (fun hb => ?_))
  · have e : betw d 1 6 = false := by simpa using hb
    rw [e]
    exact xs_one (xs_raise X11 takesX rfl rfl rfl)
  · have e : betw d 1 6 = true := by simpa using hb
    rw [e]
    exact xs_nil rfl
end
end Pr
namespace Pr
open PySem L2 Fx Mt Mu
section
variable {P : Program} {w : World} {G : Gx} {mg : Str → Option Value} {base : Heap}
theorem ok_Xis_column {f : Addr} {fd : FuncData} (F : L2.Fun G.K "is_column" "is_column" s_is_column f fd) (hb : Binds G.K fd ["thing", "width"] []) (F_is_between : Fn0 G P w mg base 2 "is_between" C_is_betweenX) : FnR P w G.K mg base CX0 3 f (sp0 G C_is_columnX) := by
  refine fn0 F sc_is_column hb (fun ds o ⟨i, w, e, _⟩ => by rw [e]; rfl) (by decide) fun cdv A outer s H E hr ds o hC => ?_
  obtain ⟨d, wd, rfl, hd, rfl⟩ := hC
  exact sx_one (sx_ret (ev_fn0 F_is_between hr (by decide) (evv_cons (ev_v 0 rfl) (evv_cons ev_int (evv_cons (ev_b b_sub (ev_v 1 rfl) ev_int) evv_nil))) ⟨d, 0, wd - 1, rfl, hd, rfl⟩ rfl) rfl)
theorem ok_Xis_rule {f : Addr} {fd : FuncData} (F : L2.Fun G.K "is_rule" "is_rule" s_is_rule f fd) (hb : Binds G.K fd ["thing", "width"] []) (T : Tx mg) (HO : Ocs G) (F_is_column : Fn0 G P w mg base 3 "is_column" C_is_columnX) : FnR P w G.K mg base CX0 4 f (sp0 G C_is_ruleX) := by
  refine fn0 F sc_is_rule hb (fun ds o ⟨i, w, e, _⟩ => by rw [e]; rfl) (by decide) fun cdv A outer s H E hr ds o hC => ?_
  obtain ⟨d, wd, rfl, hd, rfl⟩ := hC
  rcases hd with ⟨hk, ht⟩ | ⟨xs, rfl, hx⟩
  · refine sx_cons (sx_if (et_w (ew_orT (et_is (et_not (et_val (ev_isK (T' := "tuple") (ev_v 0 rfl) hk HO (by decide) T.isinstance rfl T.tuple rfl (by decide +kernel)))) (by rw [ht]; rfl)))) (fun hb => sx_one (sx_ret ev_bl ?_)) (fun hb => by cases hb))
    show _ = D.bl _
    congr 1
    unfold isRule
    split
    · exact absurd rfl (isK_notT ht _)
    · rfl
  · have kt : Kv (.tup xs) := .inl ⟨_, rfl, by decide⟩
    by_cases h3 : xs.length = 3
    · match xs, h3 with
      | [k, a, b], _ =>
        have kk := hx k (by simp)
        have ka := hx a (by simp)
        have kb := hx b (by simp)
        refine sx_cons (sx_if (k := !isK "str" k) (et_w (ew_orF (et_is (et_not (et_val (ev_isK (T' := "tuple") (ev_v 0 rfl) kt HO (by decide) T.isinstance rfl T.tuple rfl (by decide +kernel)))) (isK_tup _)) (ew_orF (et_is (et_c c_ne (ev_lenT (ev_v 0 rfl) T.len rfl) ev_int) (by rfl)) (ew_or1 (et_not (et_val (ev_isK (T' := "str") (ev_i (i_tup (m := 0) rfl rfl) (ev_v 0 rfl) ev_int) kk HO (by decide) T.isinstance rfl T.str rfl (by decide +kernel)))))))) (fun hb => sx_one (sx_ret ev_bl ?_)) (fun hb => sx_nil ?_))
        · show _ = D.bl (isKind k && _)
          congr 1
          have : isKind k = false := by
            unfold isKind
            split
            · rw [isK_strT] at hb; cases hb
            · rfl
          rw [this]
          rfl
        · obtain ⟨u, rfl⟩ : ∃ u, k = .str u := by
            have hs : isK "str" k = true := by simpa using hb
            exact isK_str hs
          refine sx_cons (sx_if (et_w (ew_and (et_c c_neS (ev_i (i_tup (m := 0) rfl rfl) (ev_v 0 rfl) ev_int) (ev_gstr rfl T.SETTLES)) fun _ => (ew_and1 (et_c c_neS (ev_i (i_tup (m := 0) rfl rfl) (ev_v 0 rfl) ev_int) (ev_gstr rfl T.WITHIN))))) (fun hb => sx_one (sx_ret ev_bl ?_)) (fun hb => sx_nil ?_))
          · show _ = D.bl ((decide (u = "settles") || decide (u = "within")) && _)
            congr 1
            rw [Bool.and_eq_true] at hb
            have h1 : decide (u = "settles") = false := by simpa using hb.1
            have h2 : decide (u = "within") = false := by simpa using hb.2
            rw [h1, h2]
            rfl
          · have hkd : isKind (.str u) = true := by
              show (decide (u = "settles") || decide (u = "within")) = true
              cases h1 : decide (u = "settles") with
              | true => rfl
              | false =>
                rw [h1] at hb
                simpa using hb
            refine sx_one (sx_ret (ev_and (ev_fn0 F_is_column hr (by decide) (evv_cons (ev_i (i_tup (m := 1) rfl rfl) (ev_v 0 rfl) ev_int) (evv_cons (ev_v 1 rfl) evv_nil)) ⟨a, wd, rfl, ka, rfl⟩ rfl) fun h1 => (ev_and (k2 := !eqI a b) (ev_fn0 F_is_column hr (by decide) (evv_cons (ev_i (i_tup (m := 2) rfl rfl) (ev_v 0 rfl) ev_int) (evv_cons (ev_v 1 rfl) evv_nil)) ⟨b, wd, rfl, kb, rfl⟩ rfl) fun h2 => ?_)) ?_)
            · obtain ⟨i, rfl, _⟩ := betw_int h1
              obtain ⟨j, rfl, _⟩ := betw_int h2
              exact ev_one (ev_c c_ne (ev_i (i_tup (m := 1) rfl rfl) (ev_v 0 rfl) ev_int) (ev_i (i_tup (m := 2) rfl rfl) (ev_v 0 rfl) ev_int))
            · show _ = D.bl (isKind (.str u) && _)
              rw [hkd]
              rfl
    · refine sx_cons (sx_if (et_w (ew_orF (et_is (et_not (et_val (ev_isK (T' := "tuple") (ev_v 0 rfl) kt HO (by decide) T.isinstance rfl T.tuple rfl (by decide +kernel)))) (isK_tup _)) (ew_orT (et_is (et_c c_ne (ev_lenT (ev_v 0 rfl) T.len rfl) ev_int) (k1 := true) ?_)))) (fun hb => sx_one (sx_ret ev_bl ?_)) (fun hb => by cases hb))
      · have : ((xs.length : Nat) : Int) ≠ 3 := by omega
        simpa using this
      · show _ = D.bl _
        congr 1
        unfold isRule
        split
        · rename_i e
          injection e with e
          rw [e] at h3
          exact absurd rfl h3
        · rfl
end
end Pr
namespace Pr
open PySem L2 Fx Mt
theorem colsR (m : Nat) : rng m = (cols (m : Int)).map D.int := by
  unfold rng cols
  rw [List.map_map, Int.toNat_natCast]
  rfl
theorem cols_length (m : Nat) : (cols (m : Int)).length = m := by unfold cols; simp
def prsA (w : Int) : List (Int × Int) := (cols w).flatMap fun a => ((cols w).filter fun b => !decide (a = b)).map fun b => (a, b)
theorem allK_prs (w : Int) (k : Bool) : allK w k = (prsA w).map fun p => (k, p.1, p.2) := by
  unfold allK prsA
  rw [List.map_flatMap]
  congr 1
  funext a
  rw [List.map_map]
  rfl
theorem prsA_len (w : Nat) (hw : w ≤ 6) : (prsA (w : Int)).length ≤ 36 := by
  have h1 : ∀ l : List Int, (l.flatMap fun a => ((cols (w : Int)).filter fun b => !decide (a = b)).map fun b => (a, b)).length ≤ l.length * w := by
    intro l
    induction l with
    | nil => simp
    | cons a l ih =>
      rw [List.flatMap_cons, List.length_append, List.length_map, List.length_cons, Nat.succ_mul]
      have := List.length_filter_le (fun b : Int => !decide (a = b)) (cols (w : Int))
      rw [cols_length] at this
      omega
  have := h1 (cols (w : Int))
  rw [cols_length] at this
  exact Nat.le_trans this (Nat.mul_le_mul hw hw)
def C_all_rules : List D → Out → Prop := fun ds o => ∃ w : Nat, ds = [.int (w : Int)] ∧ w ≤ 6 ∧ o = .new ((allR (w : Int)).map encR)
/-- all rules that follow -/
def folA (w : Int) (rs : List R) : List R := (allR w).filter (fol rs)
def C_following : List D → List D → Prop := fun ds es => ∃ (w : Nat) (rs : List R), ds = [encK (w : Int) rs] ∧ Ok (w : Int) rs ∧ w ≤ 6 ∧ es = (folA (w : Int) rs).map encR
def C_call : List D → Out → Prop := fun ds o => ∃ (w : Int) (rs : List R) (r : R), ds = [encK w rs, encR r] ∧ Ok w rs ∧ w ≤ 6 ∧ okR w r = true ∧ o = .val (.bl (fol rs r))
theorem allR_okR {w : Int} {r : R} (h : r ∈ allR w) : okR w r = true := by
  have := mem_allR.mp h
  unfold okR
  simp
  omega
theorem allR_len (w : Nat) (hw : w ≤ 6) : (allR (w : Int)).length ≤ 72 := by
  unfold allR
  rw [List.length_append, allK_prs, allK_prs, List.length_map, List.length_map]
  have := prsA_len w hw
  omega
end Pr
namespace Pr
open PySem L2 Fx Mt
section
variable {X : Cx} {G : Gx} {e : Expr} {p pos : Pos} {cs cs1 : List Cell} {d : D} {xs : List D}
/-- tuple(a list) -/
theorem ev_tupleL (ha : Ev G (rdE X e) cs (.lst xs) cs1) (hm : X.mg "tuple" = none) (hg : Gl X "tuple") (hK : G.K = X.K := by rfl) (hs : starEach [e] X.env = (false, eval e X.env) :: starEach [] X.env := by rfl) (hpl : (backTo pos (starEach [] X.env)).any (·.1) = false := by rfl) :
    Ev G (rdE X (.Call (.Name "tuple" p) [e] [] pos)) cs (.tup xs) cs1 :=
  ev_of (pe_callTy call_tuple_of hg hm (by decide +kernel) (pa_cons pe_rd pa_nil hs) (by decide) (by decide) hs hpl) fun F σ H Q rl q => ha F σ H _ rl fun v F1 H1 st1 r1 q1 => by
    obtain ⟨a, vs, rfl, h1, h2⟩ := q1
    refine ⟨a, vs, rfl, .inl ⟨SqL.of (r1.sub _ _ h1), fun l hl => ?_⟩⟩
    have g := grow_know (o := .tup vs) r1.sub hl
    exact q _ _ _ (st1.trans g.stp) (r1.grow g) ⟨l, vs, rfl, SqT.of upd_same, IsAll.mono g.fsub xs h2⟩
/-- xs.append(e), e a value that changes nothing -/
theorem sx_appendV {P : Post} {l : Addr} {ds : List D} {n : Str} {np ap spos : Pos} (i : Nat) (d : D) (h : cs[i]? = some (.own l ds)) (he : Ev G (rdE X e) cs d cs) (hz : ds.length < 10000000) (hp : P.nx (cs.set i (.own l (ds ++ [d])))) (hN : X.N[i]? = some n) (hv : Vis X.env.scope n)
    (hpe : ∀ {to : TE} {t : TA}, PE X (.Name n np) to → PA X [e] t → PE X (.Call (.Attribute (.Name n np) "append" ap) [e] [] pos) (tBM X.K "list" rAppend to t)) (hd : (n == ("__debug__" : Str)) = false := by decide) (hcd : (n == ("__classdict__" : Str)) = false := by decide)
    (hs : starEach [e] X.env = (false, eval e X.env) :: starEach [] X.env := by rfl) (hsw : swapsWith (.Call (.Attribute (.Name n np) "append" ap) [e] [] pos) none spos.line X.env = pure false := by rfl) :
    Sx G (rdS X (.Expr (.Call (.Attribute (.Name n np) "append" ap) [e] [] pos) spos)) cs P := sx_append i h he h hz hp hN hv hpe hd hcd hs hsw
end
end Pr

namespace Pr
open PySem L2 Fx Mt
abbrev s_holds : Stmt := top 13
abbrev N_holds : List Str := ["rows", "rule", "kind", "a", "b", "there", "row", "known"]
def inRow (w : Int) (x : List Int) : Prop := (x.length : Int) = w
def C_holds : List D → Out → Prop := fun ds o => ∃ (w : Int) (q : D) (rows : List (List Int)) (r : R), ds = [q, encR r] ∧ Seq q (rows.map encW) ∧ rows.length ≤ 1000 ∧ (∀ x ∈ rows, inRow w x) ∧ vR w r ∧ o = .val (.bl (hld rows r))
section
variable {P : Program} {w : World} {G : Gx} {mg : Str → Option Value} {base : Heap}
theorem sc_holds : FnScope N_holds ["rows", "rule"] (defScope s_holds) := ⟨rfl, rfl, rfl, by decide +kernel, rfl, by decide +kernel, by decide +kernel⟩
theorem vat_at {w : Int} {x : List Int} (h : inRow w x) {c : Int} (c0 : 0 ≤ c) (c1 : c < w) : ixN (x.map D.int).length c = some c.toNat ∧ (x.map D.int)[c.toNat]? = some (.int (vat x c)) := by
  unfold inRow at h
  have hl : c.toNat < x.length := by omega
  refine ⟨?_, ?_⟩
  · have e : c = ((c.toNat : Nat) : Int) := by omega
    rw [e]
    exact ixN_nat (by rw [List.length_map]; omega)
  · unfold vat
    rw [List.getElem?_map, List.getD_eq_getElem?_getD, List.getElem?_eq_getElem hl]
    rfl
theorem any_memV (x : Int) (o : List Int) : ((o.map D.int).any fun z => eqD z (.int x)) = decide (x ∈ o) := by
  rw [any_int]
  rw [Bool.eq_iff_iff, List.contains_iff_mem, decide_eq_true_eq]
theorem ok_holds {f : Addr} {fd : FuncData} (F : L2.Fun G.K "holds" "holds" s_holds f fd) (hb : Binds G.K fd ["rows", "rule"] []) (T : Tx mg) : FnR P w G.K mg base CX0 1 f (sp0 G C_holds) := by
  refine fn0 F sc_holds hb (fun ds o ⟨w, q, rows, r, e, _⟩ => by rw [e]; rfl) (by decide) fun cdv A outer s H E hr ds o hC => ?_
  obtain ⟨wd, q, rows, ⟨k, a, b⟩, rfl, hq, hz, hin, hv, rfl⟩ := hC
  have hu65 : (cx0 P w G.K mg base N_holds "holds" s_holds f cdv A outer s H E).A.units + 65 < cLine := by have := hr.un; omega
  have hu1 : (cx0 P w G.K mg base N_holds "holds" s_holds f cdv A outer s H E).A.units + 1 < cLine := by omega
  obtain ⟨a0, a1, b0, b1, _⟩ := hv
  have va : ∀ x ∈ rows, ixN (x.map D.int).length a = some a.toNat ∧ (x.map D.int)[a.toNat]? = some (.int (vat x a)) := fun x hx => vat_at (hin x hx) a0 a1
  have vb : ∀ x ∈ rows, ixN (x.map D.int).length b = some b.toNat ∧ (x.map D.int)[b.toNat]? = some (.int (vat x b)) := fun x hx => vat_at (hin x hx) b0 b1
  refine sx_cons (sx_asg (ev_v 1 rfl) (eg_tup rfl (egs_cons (eg_name 2 sc_holds.nd rfl (.inl rfl) (.inl rfl)) (egs_cons (eg_name 3 sc_holds.nd rfl (.inr rfl) (.inl rfl)) (egs_cons (eg_name 4 sc_holds.nd rfl (.inr rfl) (.inl rfl)) egs_nil)))) ?_)
  refine sx_cons (sx_if (et_c c_eqS (ev_v 2 rfl) (ev_gstr rfl T.WITHIN)) (fun hb => ?_) (fun hb => ?_))
  · have hk : k = false := by
      cases k with
      | false => rfl
      | true => exact absurd (show decide (kS true = "within") = true from hb) (by decide +kernel)
    subst hk
    refine sx_cons (sx_set 5 (ev_is (EvN.ev (evn_lc (own := [("row", 6)]) (evn_pure rows encW (fun _ => true) (fun x => .int (vat x b)) (ei_seq (ev_v 0 rfl) hq) (by omega) fun x hx => ⟨_, _, by decide, fun _ _ _ _ _ => (eg_name 6 sc_holds.nd rfl (.inl rfl) (.inr rfl)), fun _ _ _ _ _ => ets_nil, fun _ _ _ _ _ _ => ev_i (i_tup (vb x hx).1 (vb x hx).2) (ev_v 6 rfl) (ev_v 4 rfl), rfl⟩) rfl sc_holds.nd (blkOk_by (N := N_holds) (sc := defScope s_holds) (by decide +kernel)))) (y := .lst ((rows.map fun x => vat x b).map .int)) ?_) ?_ sc_holds.nd rfl (.inr rfl) (.inl rfl))
    · rw [List.filter_eq_self.mpr (by simp), List.map_map]
      rfl
    refine sx_one (sx_ret (ev_is (ev_all (bs := rows.map fun x => decide (vat x a ∈ rows.map fun y => vat y b)) (ev_is (EvN.ev (evn_lc (own := [("row", 6)]) (evn_pure rows encW (fun _ => true) (fun x => .bl (decide (vat x a ∈ rows.map fun y => vat y b))) (ei_seq (ev_v 0 rfl) hq) (by omega) fun x hx => ⟨_, _, by decide, fun _ _ _ _ _ => (eg_name 6 sc_holds.nd rfl (.inl rfl) (.inr rfl)), fun _ _ _ _ _ => ets_nil, fun _ _ _ _ _ _ => ev_is (ev_c (c_inL (by exact hu65) ⟨rfl, Nat.zero_le _⟩ (fine_lst fun d hd => ⟨(ints_flat d hd).1, Nat.le_trans (ints_flat d hd).2 (by decide)⟩)) (ev_i (i_tup (va x hx).1 (va x hx).2) (ev_v 6 rfl) (ev_v 3 rfl)) (ev_v 5 rfl)) (congrArg D.bl (any_memV _ _)), rfl⟩) rfl sc_holds.nd (blkOk_by (N := N_holds) (sc := defScope s_holds) (by decide +kernel)))) ?_) rfl T.all rfl) ?_) rfl)
    · rw [List.filter_eq_self.mpr (by simp), List.map_map]
      rfl
    · rw [List.all_map]
      rfl
  have hk : k = true := by
    cases k with
    | true => rfl
    | false => exact absurd (show decide (kS false = "within") = false from hb) (by decide +kernel)
  subst hk
  refine sx_nil ?_
  refine sx_cons (sx_setDic 7 (fun l => ?_) sc_holds.nd rfl (.inl rfl) (.inl rfl))
  refine sx_cons (sx_for (its := rows.map encW) (ei_seq (ev_v 0 rfl) hq) (fun i c => ∃ kvs c6, c = [.val q, .val (encR (true, a, b)), .val (.str (kS true)), .val (.int a), .val (.int b), .no, c6, .dic l kvs] ∧ (∀ x ∈ rows.take i, valD kvs (.inl (vat x a)) = some (.int (vat x b))) ∧ (∀ k d, valD kvs k = some d → ∃ x ∈ rows.take i, k = .inl (vat x a) ∧ d = .int (vat x b)) ∧ kvs.length ≤ i) ⟨[], .no, rfl, by simp, (fun k d h => by cases h), Nat.le_refl _⟩ (fun i d c hi hI => ?_) (fun c hI => ?_) rfl)
  · obtain ⟨kvs, c6, rfl, h1, h2, h3⟩ := hI
    rw [List.getElem?_map] at hi
    cases e : rows[i]? with
    | none => rw [e] at hi; cases hi
    | some x =>
      rw [e] at hi
      cases hi
      have hx := List.mem_of_getElem? e
      have hil : i < rows.length := (List.getElem?_eq_some_iff.mp e).1
      have ht : rows.take (i + 1) = rows.take i ++ [x] := by rw [List.take_add_one, e]; rfl
      refine ⟨_, _, eg_name 6 sc_holds.nd rfl (.inl rfl) (.inl rfl), ?_⟩
      refine sx_cons (sx_if (et_c (c_neD hr.units ?_ ⟨rfl, Nat.zero_le _⟩) (ev_dget2 (k := .inl (vat x a)) 7 rfl (ev_i (i_tup (va x hx).1 (va x hx).2) (ev_v 6 rfl) (ev_v 3 rfl)) (ev_i (i_tup (vb x hx).1 (vb x hx).2) (ev_v 6 rfl) (ev_v 4 rfl)) hu1 ⟨rfl, rfl, rfl, rfl⟩ rfl (.inl rfl)) (ev_i (i_tup (vb x hx).1 (vb x hx).2) (ev_v 6 rfl) (ev_v 4 rfl))) (fun hb => ?_) (fun hb => ?_))
      · cases q : valD kvs (.inl (vat x a)) with
        | none => exact ⟨rfl, Nat.zero_le _⟩
        | some d =>
          obtain ⟨y, _, _, rfl⟩ := h2 _ _ q
          exact ⟨rfl, Nat.zero_le _⟩
      · refine sx_one (sx_ret ev_bl ?_)
        cases q : valD kvs (.inl (vat x a)) with
        | none =>
          rw [q] at hb
          simp [eqD_int] at hb
        | some d =>
          obtain ⟨y, hy, ey, rfl⟩ := h2 _ _ q
          rw [q] at hb
          have hne : vat y b ≠ vat x b := by simpa [eqD_int] using hb
          have ea : vat x a = vat y a := by injection ey
          show D.bl false = D.bl _
          congr 1
          cases hh : hld rows (true, a, b) with
          | false => rfl
          | true => exact absurd (hld_settles.mp hh y (List.mem_of_mem_take hy) x hx ea.symm) hne
      · refine sx_nil ?_
        refine sx_one (sx_dput (k := .inl (vat x a)) 7 (ev_i (i_tup (vb x hx).1 (vb x hx).2) (ev_v 6 rfl) (ev_v 4 rfl)) (ev_i (i_tup (va x hx).1 (va x hx).2) (ev_v 6 rfl) (ev_v 3 rfl)) rfl (by omega) ?_ hu1 rfl (.inl rfl))
        have hsame : ∀ d, valD kvs (.inl (vat x a)) = some d → d = .int (vat x b) := fun d q => by
          obtain ⟨y, hy, ey, rfl⟩ := h2 _ _ q
          rw [q] at hb
          have : vat y b = vat x b := by simpa [eqD_int] using hb
          rw [this]
        refine ⟨_, .val (encW x), rfl, fun y hy => ?_, fun k d hd => ?_, ?_⟩
        · rw [valD_put]
          rw [ht] at hy
          rcases List.mem_append.mp hy with hy | hy
          · split
            · rename_i e2
              have := h1 y hy
              rw [e2] at this
              rw [hsame _ this]
            · exact h1 y hy
          · rw [List.mem_singleton.mp hy, if_pos rfl]
        · rw [valD_put] at hd
          rw [ht]
          split at hd
          · rename_i e2
            cases hd
            exact ⟨x, by simp, e2, rfl⟩
          · obtain ⟨y, hy, q1, q2⟩ := h2 k d hd
            exact ⟨y, List.mem_append.mpr (.inl hy), q1, q2⟩
        · have := putKD_len kvs (.inl (vat x a)) (.int (vat x b))
          omega
  · obtain ⟨kvs, c6, rfl, h1, h2, h3⟩ := hI
    rw [List.length_map, List.take_length] at h1
    refine sx_one (sx_ret ev_bl ?_)
    show D.bl true = D.bl _
    congr 1
    refine (hld_settles.mpr fun x hx y hy e => ?_).symm
    have p1 := h1 x hx
    have p2 := h1 y hy
    rw [e, p2] at p1
    injection p1 with p1
    injection p1 with p1
    exact p1.symm
end
end Pr

namespace Pr
open PySem L2 Fx Mt
structure TxT (mg : Str → Option Value) : Prop where
  MOST_ROWS : ∃ t, mg "MOST_ROWS" = some (.int 400 t)
  MOST_VALUE : ∃ t, mg "MOST_VALUE" = some (.int 9999 t)
theorem ev_lenQ {X : Cx} {G : Gx} {e : Expr} {cs cs1 : List Cell} {q : D} {xs : List D} {np pos : Pos} (hq : q = .lst xs ∨ q = .ptup xs) (ha : Ev G (rdE X e) cs q cs1) (hm : X.mg "len" = none) (hg : Gl X "len") (hK : G.K = X.K := by rfl) (hs : starEach [e] X.env = (false, eval e X.env) :: starEach [] X.env := by rfl) (hpl : (backTo pos (starEach [] X.env)).any (·.1) = false := by rfl) : Ev G (rdE X (.Call (.Name "len" np) [e] [] pos)) cs (.int (xs.length : Nat)) cs1 := by
  rcases hq with rfl | rfl
  · exact ev_lenL ha hm hg hK hs hpl
  · exact ev_lenT (ev_ptup ha) hm hg hK hs hpl
def okRow (w : Int) (x : List Int) : Bool := decide ((x.length : Int) = w) && x.all fun v => decide (0 ≤ v) && decide (v ≤ 9999)
def C_is_row : List D → Out → Prop := fun ds o => ∃ (x : List Int) (w : Int), ds = [encW x, .int w] ∧ x.length ≤ 1000 ∧ o = .val (.bl (okRow w x))
def C_are_rows : List D → Out → Prop := fun ds o => ∃ (q : D) (rows : List (List Int)) (w : Int), ds = [q, .int w] ∧ (q = .lst (rows.map encW) ∨ q = .ptup (rows.map encW)) ∧ rows.length ≤ 400 ∧ (∀ x ∈ rows, okRow w x = true ∧ x.length ≤ 1000) ∧ o = .val (.bl true)
abbrev s_is_row : Stmt := top 27
abbrev N_is_row : List Str := ["thing", "width", "part"]
section
variable {P : Program} {w : World} {G : Gx} {mg : Str → Option Value} {base : Heap}
theorem sc_is_row : FnScope N_is_row ["thing", "width"] (defScope s_is_row) := ⟨rfl, rfl, rfl, by decide +kernel, rfl, by decide +kernel, by decide +kernel⟩
theorem ok_is_row {f : Addr} {fd : FuncData} (F : L2.Fun G.K "is_row" "is_row" s_is_row f fd) (hb : Binds G.K fd ["thing", "width"] []) (T : Tx mg) (V : TxT mg) (F_is_between : Fn0 G P w mg base 2 "is_between" C_is_between) : FnR P w G.K mg base CX0 3 f (sp0 G C_is_row) := by
  refine fn0 F sc_is_row hb (fun ds o ⟨x, w, e, _⟩ => by rw [e]; rfl) (by decide) fun cdv A outer s H E hr ds o hC => ?_
  obtain ⟨x, wd, rfl, hl, rfl⟩ := hC
  refine sx_cons (sx_if (et_w (ew_or (et_not (et_val (ev_isi (t := "tuple") (T' := "tuple") (k := true) (ev_v 0 rfl) rfl (by decide +kernel) T.isinstance rfl T.tuple rfl (by decide +kernel)))) fun _ => ew_or1 (et_c c_ne (ev_lenT (ev_v 0 rfl) T.len rfl) (ev_v 1 rfl)))) (fun hb => ?_) (fun hb => ?_))
  · refine sx_one (sx_ret ev_bl ?_)
    rw [List.length_map] at hb
    have h1 : decide ((x.length : Int) = wd) = false := by simpa using hb
    show D.bl false = D.bl (decide ((x.length : Int) = wd) && _)
    rw [h1]
    rfl
  rw [List.length_map] at hb
  have h1 : decide ((x.length : Int) = wd) = true := by simpa using hb
  refine sx_nil ?_
  refine sx_one (sx_ret (ev_is (ev_all (bs := x.map fun v => decide (0 ≤ v) && decide (v ≤ 9999)) (ev_is (EvN.ev (evn_lc (own := [("part", 2)]) (evn_pure x D.int (fun _ => true) (fun v => .bl (decide (0 ≤ v) && decide (v ≤ 9999))) (ei_tup (ev_v 0 rfl)) (by omega) fun v hv => ⟨_, _, by decide, fun _ _ _ _ _ => (eg_name 2 sc_is_row.nd rfl (.inl rfl) (.inr rfl)), fun _ _ _ _ _ => ets_nil, fun _ _ _ _ _ _ => ev_fn0 F_is_between hr (by decide) (evv_cons (ev_v 2 rfl) (evv_cons ev_int (evv_cons (ev_gint rfl V.MOST_VALUE) evv_nil))) ⟨v, 0, 9999, rfl, rfl⟩ (by rfl), rfl⟩) rfl sc_is_row.nd (blkOk_by (N := N_is_row) (sc := defScope s_is_row) (by decide +kernel)))) ?_) rfl T.all rfl) ?_) rfl)
  · rw [List.filter_eq_self.mpr (by simp), List.map_map]
    rfl
  · show _ = D.bl (decide ((x.length : Int) = wd) && x.all fun v => decide (0 ≤ v) && decide (v ≤ 9999))
    rw [h1, List.all_map]
    rfl
end
end Pr
namespace Pr
open PySem L2 Fx Mt
abbrev s_are_rows : Stmt := top 28
abbrev N_are_rows : List Str := ["things", "width", "thing"]
section
variable {P : Program} {w : World} {G : Gx} {mg : Str → Option Value} {base : Heap}
theorem sc_are_rows : FnScope N_are_rows ["things", "width"] (defScope s_are_rows) := ⟨rfl, rfl, rfl, by decide +kernel, rfl, by decide +kernel, by decide +kernel⟩
theorem ok_are_rows {f : Addr} {fd : FuncData} (F : L2.Fun G.K "are_rows" "are_rows" s_are_rows f fd) (hb : Binds G.K fd ["things", "width"] []) (T : Tx mg) (V : TxT mg) (F_is_row : Fn0 G P w mg base 3 "is_row" C_is_row) : FnR P w G.K mg base CX0 4 f (sp0 G C_are_rows) := by
  refine fn0 F sc_are_rows hb (fun ds o ⟨q, rows, w, e, _⟩ => by rw [e]; rfl) (by decide) fun cdv A outer s H E hr ds o hC => ?_
  obtain ⟨q, rows, wd, rfl, hq, hl, hin, rfl⟩ := hC
  refine sx_one (sx_ret (ev_is (ev_and (k1 := true) (ev_is (ev_c c_le (ev_lenQ hq (ev_v 0 rfl) T.len rfl) (ev_gint rfl V.MOST_ROWS)) ?_) fun _ => ev_one (ev_all (bs := rows.map fun _ => true) (ev_is (EvN.ev (evn_lc (own := [("thing", 2)]) (evn_pure rows encW (fun _ => true) (fun _ => .bl true) (ei_lp (ev_v 0 rfl) hq) (by omega) fun x hx => ⟨_, _, by decide, fun _ _ _ _ _ => (eg_name 2 sc_are_rows.nd rfl (.inl rfl) (.inr rfl)), fun _ _ _ _ _ => ets_nil, fun _ _ _ _ _ _ => ev_is (ev_fn0 F_is_row hr (by decide) (evv_cons (ev_v 2 rfl) (evv_cons (ev_v 1 rfl) evv_nil)) ⟨x, wd, rfl, (hin x hx).2, rfl⟩ (by rfl)) (congrArg D.bl (hin x hx).1), rfl⟩) rfl sc_are_rows.nd (blkOk_by (N := N_are_rows) (sc := defScope s_are_rows) (by decide +kernel)))) ?_) rfl T.all rfl)) ?_) rfl)
  · rw [List.length_map]
    exact congrArg D.bl (decide_eq_true (by omega))
  · rw [List.filter_eq_self.mpr (by simp), List.map_map]
    rfl
  · rw [List.all_map]
    simp
end
end Pr

namespace Pr
open PySem L2 Fx Mt
structure TxD (mg : Str → Option Value) : Prop where
  DIGITS : ∃ t, mg "DIGITS" = some (.str "0123456789" t)
/-- a table, as an object -/
def encT (w : Int) (rows : List (List Int)) : D := .obj 1 [.int w, .ptup (rows.map encW)]
structure TC (G : Gx) (mg : Str → Option Value) : Prop where
  fld : G.fld 1 = [("columns" : Str), "kept"]
  cl : Cls G.K (G.cls 1)
  n1 : NoAttr G.K (G.cls 1) "columns"
  n2 : NoAttr G.K (G.cls 1) "kept"
  nm : mg "Table" = some (.ref (G.cls 1))
  ty : ∀ a dx fs, TyOf G.K (fun b => if b = a then some (.ins (G.cls 1) dx fs) else none) (.ref a) (.ref (G.cls 1))
  kit : PySem.W.kitOne G.K (.ref (G.cls 1)) (.ref (G.cls 1)) = some true
theorem okRow_of {w : Int} {x : List Int} (h : Rw w x) : okRow w x = true := by
  unfold okRow
  rw [decide_eq_true h.len, List.all_eq_true.mpr fun v hv => by
    have := h.val v hv
    rw [decide_eq_true this.1, decide_eq_true this.2]; rfl]
  rfl
theorem Rws.oks {w : Int} {rows : List (List Int)} (h : Rws w rows) (hw : w ≤ 6) : ∀ x ∈ rows, okRow w x = true ∧ x.length ≤ 1000 := fun x hx => ⟨okRow_of (h.row x hx), by have := (h.row x hx).len; omega⟩
def C_number_of : List D → Out → Prop := fun ds o => ∃ v : Int, ds = [.str (nS v)] ∧ isVal v ∧ o = .val (.int v)
def C_tinit : List D → List D → Prop := fun ds fs => ∃ (w : Int) (rows : List (List Int)), ds = .int w :: rows.map encW ∧ Rws w rows ∧ 1 ≤ w ∧ w ≤ 6 ∧ fs = [.int w, .ptup (rows.map encW)]
def C_ttext : List D → Out → Prop := fun ds o => ∃ (w : Int) (rows : List (List Int)), ds = [encT w rows] ∧ Rws w rows ∧ w ≤ 6 ∧ o = .val (.str (rwsT rows))
def C_tread : List D → Out → Prop := fun ds o => ∃ (w : Int) (rows : List (List Int)), ds = [.cls 1, .int w, .str (rwsT rows)] ∧ Rws w rows ∧ 1 ≤ w ∧ w ≤ 6 ∧ o = .val (encT w rows)
theorem dd_cnt (rows : List (List Int)) (c : Int) : (ddI (rows.map fun x => vat x c)).length = cnt rows c := by
  refine Nat.le_antisymm (nodup_le (ddI_nodup _) fun v hv => ?_) (nodup_le (srt_nd _) fun v hv => ?_)
  · exact mem_srt.mpr (ddI_mem.mp hv)
  · exact ddI_mem.mpr (mem_srt.mp hv)
def C_counts : List D → Out → Prop := fun ds o => ∃ (w : Nat) (rows : List (List Int)), ds = [encT (w : Int) rows] ∧ Rws (w : Int) rows ∧ w ≤ 6 ∧ o = .val (.tup ((cols (w : Int)).map fun c => .int ((cnt rows c : Nat) : Int)))
def C_tcall : List D → Out → Prop := fun ds o => ∃ (w : Int) (rows : List (List Int)) (r : R), ds = [encT w rows, encR r] ∧ Rws w rows ∧ okR w r = true ∧ o = .val (.bl (hld rows r))
def obA (w : Int) (rows : List (List Int)) : List R := (allR w).filter (hld rows)
def C_obeyed : List D → Out → Prop := fun ds o => ∃ (w : Nat) (rows : List (List Int)), ds = [encT (w : Int) rows] ∧ Rws (w : Int) rows ∧ 1 ≤ w ∧ w ≤ 6 ∧ o = .val (encK (w : Int) (obA (w : Int) rows))
theorem cut_lastT {α : Type} (l : List α) (z : α) : ((l ++ [z]).drop (HT.sIx (l ++ [z]).length 0 none)).take (HT.sIx (l ++ [z]).length (l ++ [z]).length (some (-1)) - HT.sIx (l ++ [z]).length 0 none) = l := by
  have e1 : HT.sIx (l ++ [z]).length 0 none = 0 := rfl
  have e2 : HT.sIx (l ++ [z]).length (l ++ [z]).length (some (-1)) = l.length := by
    rw [List.length_append]
    unfold HT.sIx
    simp
    omega
  rw [e1, e2]
  simp
/-! scopes of nested blocks -/
def lcT : Expr → Scope
  | .ListComp _ _ sc _ => sc
  | _ => { kind := .function, names := [], isGenerator := false, isCoroutine := false }
def elT : Expr → Expr
  | .ListComp e _ _ _ => e
  | e => e
def argT : Expr → Expr
  | .Call _ (e :: _) _ _ => e
  | e => e
def leftT : Expr → Expr
  | .BinOp a _ _ _ => a
  | e => e
def stT : Stmt → Expr
  | .Assign _ e _ => e
  | .Return (some e) _ => e
  | .Expr e _ => e
  | _ => .Constant .none 0 ⟨0, 0, 0, 0⟩
def atT (s : Stmt) (i : Nat) : Expr := stT ((defBody s).getD i (.Pass ⟨0, 0, 0, 0⟩))
def relT (i o : Scope) : Scope := relabel i (PyProof.Rows.envOfC "" o 0 0 .none)
end Pr
namespace Pr
open PySem L2 Fx Mt
abbrev s_number_of : Stmt := top 29
abbrev N_number_of : List Str := ["word", "sign"]
section
variable {P : Program} {w : World} {G : Gx} {mg : Str → Option Value} {base : Heap}
theorem sc_number_of : FnScope N_number_of ["word"] (defScope s_number_of) := ⟨rfl, rfl, rfl, by decide +kernel, rfl, by decide +kernel, by decide +kernel⟩
theorem ok_number_of {f : Addr} {fd : FuncData} (F : L2.Fun G.K "number_of" "number_of" s_number_of f fd) (hb : Binds G.K fd ["word"] []) (T : Tx mg) (V2 : TxD mg) : FnR P w G.K mg base CX0 1 f (sp0 G C_number_of) := by
  refine fn0 F sc_number_of hb (fun ds o ⟨v, e, _⟩ => by rw [e]; rfl) (by decide) fun cdv A outer s H E hr ds o hC => ?_
  obtain ⟨v, rfl, hv, rfl⟩ := hC
  have hl := len_val hv
  refine sx_cons (sx_if (et_w (ew_or (k1 := false) (et_is (et_not (et_cc c_le c_le ev_int (ev_lenS (ev_v 0 rfl) (by omega) T.len rfl) ev_int pt_chain)) ?_) fun _ => (ew_or1 (et_is (et_not (et_val (ev_all (bs := (nS v).cps.toList.map fun _ => true) (ev_is (EvN.ev (evn_lc (own := [("sign", 1)]) (evn_pure (nS v).cps.toList (fun c => D.str (sgn c)) (fun _ => true) (fun _ => .bl true) (ei_str (ev_v 0 rfl)) (by rw [Array.length_toList]; exact Nat.lt_of_le_of_lt hl.2 (by decide)) fun c hc => ⟨_, _, by decide, fun _ _ _ _ _ => (eg_name 1 sc_number_of.nd rfl (.inl rfl) (.inr rfl)), fun _ _ _ _ _ => ets_nil, fun _ _ _ _ _ _ => ev_is (ev_c c_sgn (ev_v 1 rfl) (ev_gstr rfl V2.DIGITS)) (congrArg D.bl (decide_eq_true (sign_val hv hc))), rfl⟩) rfl sc_number_of.nd (blkOk_by (N := N_number_of) (sc := defScope s_number_of) (by decide +kernel)))) ?_) rfl T.all rfl))) (k1 := false) ?_)))) (fun hb => ?_) (fun hb => ?_))
  · have h1 : decide ((1 : Int) ≤ ((nS v).length : Int)) = true := decide_eq_true (by omega)
    have h2 : decide (((nS v).length : Int) ≤ 4) = true := decide_eq_true (by omega)
    rw [h1, h2]; rfl
  · rw [List.filter_eq_self.mpr (by simp), List.map_map]
    rfl
  · rw [List.all_map]; simp
  · cases hb
  refine sx_nil ?_
  exact sx_one (sx_ret (ev_intS (ev_v 0 rfl) (int_val hv) (by omega) T.int rfl) rfl)
end
end Pr
namespace Pr
open PySem L2 Fx Mt
abbrev s_tinit : Stmt := inClass (top 31) 0
section
variable {P : Program} {w : World} {G : Gx} {mg : Str → Option Value} {base : Heap}
theorem sc_tinit : FnScope [("self" : Str), "width", "rows"] ([("self" : Str), "width"] ++ [("rows" : Str)]) (defScope s_tinit) := ⟨rfl, rfl, rfl, by decide +kernel, rfl, by decide +kernel, by decide +kernel⟩
theorem ok_tinit {f : Addr} {fd : FuncData} (F : L2.Fun G.K "__init__" "Table.__init__" s_tinit f fd) (KT : TC G mg) (F_need_width : Fn0 G P w mg base 3 "need_width" C_need_width) (F_are_rows : Fn0 G P w mg base 4 "are_rows" C_are_rows) : FnR P w G.K mg base CX0 6 f (spI G 1 C_tinit) := by
  refine fnI F sc_tinit (fun kV doc pm an cdv ct a b rest => by cases rest <;> rfl) (by decide) (fun ds fs ⟨w, rs, e, _, _, _, e2⟩ => by rw [e, e2, KT.fld]; exact ⟨Nat.succ_pos _, rfl⟩) fun cdv A outer s H E hr l d rs fs hC => ?_
  obtain ⟨wd, rows, e, hok, h1, h2, rfl⟩ := hC
  cases e
  refine sx_cons (sx_expr (ev_fn0 F_need_width hr (by decide) (evv_cons (ev_v 1 rfl) evv_nil) ⟨wd, rfl, h1, h2, rfl⟩ rfl) ?_)
  refine sx_cons (sx_if (et_not (et_val (ev_fn0 F_are_rows hr (by decide) (evv_cons (ev_v 2 rfl) (evv_cons (ev_v 1 rfl) evv_nil)) ⟨_, rows, wd, rfl, .inr rfl, hok.few, Rws.oks hok h2, rfl⟩ rfl))) (fun hb => ?_) (fun hb => ?_))
  · cases hb
  refine sx_nil ?_
  refine sx_one (sx_self2 (i := 0) (l := l) (c := 1) (ev_tup (evv_cons (ev_v 1 rfl) (evv_cons (ev_v 2 rfl) evv_nil)) rfl) rfl rfl rfl (.inl rfl) KT.cl KT.n1 KT.n2 (by rw [KT.fld]; rfl) (by decide +kernel) rfl)
end
end Pr
namespace Pr
open PySem L2 Fx Mt
abbrev s_ttext : Stmt := inClass (top 31) 2
abbrev N_ttext : List Str := ["self", "row", "value"]
section
variable {P : Program} {w : World} {G : Gx} {mg : Str → Option Value} {base : Heap}
theorem sc_ttext : FnScope N_ttext ["self"] (defScope s_ttext) := ⟨rfl, rfl, rfl, by decide +kernel, rfl, by decide +kernel, by decide +kernel⟩
theorem ok_ttext {f : Addr} {fd : FuncData} (F : L2.Fun G.K "text" "Table.text" s_ttext f fd) (T : Tx mg) (KT : TC G mg) : FnOk P w G.K mg base CX0 1 f fd ["self"] (sp0 G C_ttext) := by
  refine fnOk0 F sc_ttext (fun ds o ⟨w, rs, e, _⟩ => by rw [e]; rfl) (by decide) fun cdv A outer s H E hr ds o hC => ?_
  obtain ⟨wd, rows, rfl, hok, hw, rfl⟩ := hC
  have hl := hok.few
  have hs := rows_sum hok hw
  have e1 : (" " : Str).length = 1 := by decide +kernel
  have e2 : ("\n" : Str).length = 1 := by decide +kernel
  have e3 : ("" : Str).length = 0 := by decide +kernel
  refine sx_one (sx_ret (ev_join (ys := (rows.map rwS).map fun s => s ++ ("\n" : Str)) ev_str (ev_is (EvN.ev (evn_lc (own := [("row", 1)]) (evn_pure rows encW (fun _ => true) (fun x => .str (rwS x ++ "\n")) (ei_tup (ev_ptup (ev_fld (c := 1) (m := 1) (ev_v 0 rfl) (by rw [KT.fld]; decide +kernel) rfl KT.cl KT.n2))) (by omega) fun x hx => ⟨_, _, by decide, fun _ _ _ _ _ => eg_name 1 sc_ttext.nd rfl (.inl rfl) (.inr rfl), fun _ _ _ _ _ => ets_nil, fun _ _ _ _ _ _ => ev_b (b_addS ?_) (ev_join (ys := x.map nS) ev_str (ev_is (EvN.ev (evn_lc (own := [("value", 2)]) (evn_pure x D.int (fun _ => true) (fun v => .str (nS v)) (ei_tup (ev_v 1 rfl)) (by have := (hok.row x hx).len; omega) fun v hv => ⟨_, _, by decide, fun _ _ _ _ _ => eg_name 2 sc_ttext.nd rfl (.inl rfl) (.inr rfl), fun _ _ _ _ _ => ets_nil, fun _ _ _ _ _ _ => ev_strI (ev_v 2 rfl) (nS_log ((hok.row x hx).val v hv)) T.str rfl, rfl⟩) rfl sc_ttext.nd (blkOk_by (N := N_ttext) (sc := relT (lcT (argT (atT s_ttext 0))) (defScope s_ttext)) (by decide +kernel)))) ?_) ?_) ev_str, rfl⟩) rfl sc_ttext.nd (blkOk_by (N := N_ttext) (sc := defScope s_ttext) (by decide +kernel)))) ?_) ?_) ?_)
  · show (rwS x).length + _ ≤ _
    have := row_len (hok.row x hx) hw
    omega
  · rw [List.filter_eq_self.mpr (by simp), List.map_map]
    rfl
  · have h1 := row_sum (hok.row x hx) hw
    have h2 := (hok.row x hx).len
    rw [e1, List.length_map]
    omega
  · rw [List.filter_eq_self.mpr (by simp), List.map_map, List.map_map]
    rfl
  · rw [e3, List.length_map, List.length_map]
    omega
  · rfl
end
end Pr
namespace Pr
open PySem L2 Fx Mt
abbrev s_tread : Stmt := inClass (top 31) 1
abbrev N_tread : List Str := ["cls", "width", "text", "rows", "made", "line", "word"]
section
variable {P : Program} {w : World} {G : Gx} {mg : Str → Option Value} {base : Heap}
theorem sc_tread : FnScope N_tread ["cls", "width", "text"] (defScope s_tread) := ⟨rfl, rfl, rfl, by decide +kernel, rfl, by decide +kernel, by decide +kernel⟩
theorem ok_tread {f : Addr} {fd : FuncData} (F : L2.Fun G.K "read" "Table.read" s_tread f fd) (hb : Binds G.K fd ["cls", "width", "text"] []) (T : Tx mg) (KT : TC G mg) (F_need_width : Fn0 G P w mg base 3 "need_width" C_need_width) (F_are_rows : Fn0 G P w mg base 4 "are_rows" C_are_rows) (F_number_of : Fn0 G P w mg base 1 "number_of" C_number_of) (I : PkInit G P w mg base 1 6 C_tinit) (M : PkMeth0 G P w mg base 1 1 "text" C_ttext) : FnR P w G.K mg base CX0 8 f (sp0 G C_tread) := by
  refine fn0 F sc_tread hb (fun ds o ⟨w, rs, e, _⟩ => by rw [e]; rfl) (by decide) fun cdv A outer s H E hr ds o hC => ?_
  obtain ⟨wd, rows, rfl, hok, h1, h2, rfl⟩ := hC
  have hl := hok.few
  have ht := rwsT_len hok h2
  refine sx_cons (sx_expr (ev_fn0 F_need_width hr (by decide) (evv_cons (ev_v 1 rfl) evv_nil) ⟨wd, rfl, h1, h2, rfl⟩ rfl) ?_)
  refine sx_cons (sx_if (et_w (ew_or (et_not (et_val (ev_isi (t := "str") (T' := "str") (k := true) (ev_v 2 rfl) rfl (by decide +kernel) T.isinstance rfl T.str rfl (by decide +kernel)))) fun _ => (ew_or1 (et_w (ew_and (et_c c_neS (ev_v 2 rfl) ev_str) fun _ => (ew_and1 (et_not (et_val (ev_endswith (ev_v 2 rfl) ev_str))))))))) (fun hb => ?_) (fun hb => ?_))
  · have hb2 : (!decide (rwsT rows = "") && !Txt.endswith (rwsT rows) "\n") = true := hb
    unfold rwsT at hb2
    rw [lines_ok] at hb2; cases hb2
  refine sx_nil ?_
  have hcut : D.lst (((List.map D.str (rows.map rwS ++ [("" : Str)])).drop (HT.sIx (List.map D.str (rows.map rwS ++ [("" : Str)])).length 0 none)).take (HT.sIx (List.map D.str (rows.map rwS ++ [("" : Str)])).length (List.map D.str (rows.map rwS ++ [("" : Str)])).length (some (-1)) - HT.sIx (List.map D.str (rows.map rwS ++ [("" : Str)])).length 0 none)) = .lst (rows.map fun r => D.str (rwS r)) := by
    rw [List.map_append, List.map_map]
    show D.lst ((((rows.map fun r => D.str (rwS r)) ++ [D.str ("" : Str)]).drop _).take _) = _
    exact congrArg D.lst (cut_lastT _ _)
  refine sx_cons (sx_setLc 3 (own := [("line", 5)]) (evn_pure rows (fun r => D.str (rwS r)) (fun _ => true) encW (ei_list (ev_is (EvN.ev (evn_slice po_none (po_some pe_rd) (ev_is (EvN.ev (evn_split (ev_v 2 rfl) ev_str (by decide +kernel) (by omega))) (congrArg (fun l => D.lst (l.map D.str)) (split_rows hok))) es_none (es_some (ev_neg ev_int)))) hcut)) (by omega) fun x hx => ⟨_, _, by decide, fun _ _ _ _ _ => (eg_name 5 sc_tread.nd rfl (.inl rfl) (.inr rfl)), fun _ _ _ _ _ => ets_nil, fun _ _ _ _ _ _ => ev_tupleL (ev_is (EvN.ev (evn_lc (own := [("word", 6)]) (evn_pure x (fun v => D.str (nS v)) (fun _ => true) D.int (ei_list (ev_is (EvN.ev (evn_split (ev_v 5 rfl) ev_str (by decide +kernel) (by have := row_len (hok.row x hx) h2; omega))) ?_)) (by have := (hok.row x hx).len; omega) fun v hv => ⟨_, _, by decide, fun _ _ _ _ _ => (eg_name 6 sc_tread.nd rfl (.inl rfl) (.inr rfl)), fun _ _ _ _ _ => ets_nil, fun _ _ _ _ _ _ => ev_fn0 F_number_of hr (by decide) (evv_cons (ev_v 6 rfl) evv_nil) ⟨v, rfl, (hok.row x hx).val v hv, rfl⟩ (by rfl), rfl⟩) rfl sc_tread.nd (blkOk_by (N := N_tread) (sc := relT (lcT (atT s_tread 2)) (defScope s_tread)) (by decide +kernel)))) ?_) T.tuple rfl, rfl⟩) (fun l => ?_) rfl sc_tread.nd rfl rfl (sw_true rfl rfl rfl (by decide +kernel)) (blkOk_by (N := N_tread) (sc := defScope s_tread) (by decide +kernel)))
  · rw [split_row (hok.row x hx) h1, List.map_map]
    rfl
  · rw [List.filter_eq_self.mpr (by simp)]
  rw [List.filter_eq_self.mpr (by simp)]
  refine sx_frz 3 (l := l) (ds := rows.map encW) rfl ?_
  refine sx_cons (sx_if (et_not (et_val (ev_fn0 F_are_rows hr (by decide) (evv_cons (ev_v 3 rfl) (evv_cons (ev_v 1 rfl) evv_nil)) ⟨_, rows, wd, rfl, .inl rfl, hok.few, Rws.oks hok h2, rfl⟩ rfl))) (fun hb => ?_) (fun hb => ?_))
  · cases hb
  refine sx_nil ?_
  refine sx_cons (sx_set 4 (ev_makeLSP (c := 1) 0 I hr (by decide) rfl (evv_cons (ev_v 1 rfl) (evv_star (ev_v 3 rfl) evv_nil (.inl rfl))) (by simp; omega) ⟨wd, rows, by rw [List.append_nil], hok, h1, h2, rfl⟩ rfl (.inl rfl)) ?_ sc_tread.nd rfl (.inl rfl) (.inl rfl))
  refine sx_cons (sx_if (et_c c_neS (ev_meth0P M (ev_v 4 rfl) KT.cl (by rw [KT.fld]; decide +kernel) hr (by decide) ⟨wd, rows, rfl, hok, h2, rfl⟩) (ev_v 2 rfl)) (fun hb => ?_) (fun hb => ?_))
  · simp at hb
  refine sx_nil ?_
  exact sx_one (sx_ret (ev_v 4 rfl) rfl)
end
end Pr
namespace Pr
open PySem L2 Fx Mt
abbrev s_tcall : Stmt := inClass (top 31) 7
section
variable {P : Program} {w : World} {G : Gx} {mg : Str → Option Value} {base : Heap}
theorem sc_tcall : FnScope ["self", "rule"] ["self", "rule"] (defScope s_tcall) := ⟨rfl, rfl, rfl, by decide +kernel, rfl, by decide +kernel, by decide +kernel⟩
theorem okR_vR {w : Int} {r : R} (h : okR w r = true) : vR w r := by
  unfold okR at h
  unfold vR
  simp at h
  omega
theorem ok_tcall {f : Addr} {fd : FuncData} (F : L2.Fun G.K "__call__" "Table.__call__" s_tcall f fd) (hb : Binds G.K fd ["self", "rule"] []) (KT : TC G mg) (F_need_rule : Fn0 G P w mg base 5 "need_rule" C_need_rule) (F_holds : Fn0 G P w mg base 1 "holds" C_holds) : FnR P w G.K mg base CX0 6 f (sp0 G C_tcall) := by
  refine fn0 F sc_tcall hb (fun ds o ⟨w, rs, r, e, _⟩ => by rw [e]; rfl) (by decide) fun cdv A outer s H E hr ds o hC => ?_
  obtain ⟨wd, rows, r, rfl, hok, ho, rfl⟩ := hC
  refine sx_cons (sx_expr (ev_fn0 F_need_rule hr (by decide) (evv_cons (ev_v 1 rfl) (evv_cons (ev_fld (c := 1) (m := 0) (ev_v 0 rfl) (by rw [KT.fld]; decide +kernel) rfl KT.cl KT.n1) evv_nil)) ⟨r, wd, rfl, ho, rfl⟩ rfl) ?_)
  exact sx_one (sx_ret (ev_fn0 F_holds hr (by decide) (evv_cons (ev_ptup (ev_fld (c := 1) (m := 1) (ev_v 0 rfl) (by rw [KT.fld]; decide +kernel) rfl KT.cl KT.n2)) (evv_cons (ev_v 1 rfl) evv_nil)) ⟨wd, _, rows, r, rfl, .inr rfl, by have := hok.few; omega, fun x hx => (hok.row x hx).len, okR_vR ho, rfl⟩ rfl) rfl)
end
end Pr

namespace Pr
open PySem L2 Fx Mt Mu
def isRowD (w : Int) (d : D) : Bool := match d with
  | .tup xs => decide ((xs.length : Int) = w) && xs.all fun x => betw x 0 9999
  | _ => false
def areRows (w : Int) (ds : List D) : Bool := decide (((ds.length : Nat) : Int) ≤ 400) && ds.all (isRowD w)
def C_is_rowX : List D → Out → Prop := fun ds o => ∃ (d : D) (w : Int), ds = [d, .int w] ∧ Kd d ∧ (∀ xs, d = .tup xs → xs.length ≤ 100000) ∧ o = .val (.bl (isRowD w d))
def C_are_rowsX : List D → Out → Prop := fun ds o => ∃ (q : D) (xs : List D) (w : Int), ds = [q, .int w] ∧ (q = .lst xs ∨ q = .ptup xs) ∧ (∀ d ∈ xs, Kd d ∧ ∀ ys, d = .tup ys → ys.length ≤ 100000) ∧ xs.length ≤ 100000 ∧ o = .val (.bl (areRows w xs))
def C_number_ofX : List D → Out → Prop := fun ds o => ∃ x : Str, ds = [.str x] ∧ x.length ≤ 1000000 ∧ o = .val (.int (numW x))
theorem kd_row (x : List Int) : Kd (encW x) := .inr ⟨_, rfl, fun y hy => by
  obtain ⟨v, _, rfl⟩ := List.mem_map.mp hy
  exact kv_int v⟩
theorem isRowD_encW (w : Int) (x : List Int) : isRowD w (encW x) = (decide ((x.length : Int) = w) && x.all fun v => decide (0 ≤ v) && decide (v ≤ 9999)) := by
  show (decide (((x.map D.int).length : Int) = w) && (x.map D.int).all fun x => betw x 0 9999) = _
  rw [List.length_map, List.all_map]
  rfl
theorem areRows_Rws (w : Int) (rows : List (List Int)) : areRows w (rows.map encW) = true ↔ Rws w rows := by
  unfold areRows
  rw [Bool.and_eq_true, List.length_map, List.all_map, decide_eq_true_eq, List.all_eq_true]
  constructor
  · rintro ⟨h1, h2⟩
    refine ⟨by omega, fun x hx => ?_⟩
    have h3 : isRowD w (encW x) = true := h2 x hx
    rw [isRowD_encW, Bool.and_eq_true] at h3
    refine ⟨of_decide_eq_true h3.1, fun v hv => ?_⟩
    have h4 := List.all_eq_true.mp h3.2 v hv
    rw [Bool.and_eq_true] at h4
    exact ⟨of_decide_eq_true h4.1, of_decide_eq_true h4.2⟩
  · intro h
    refine ⟨by have := h.few; omega, fun x hx => ?_⟩
    show isRowD w (encW x) = true
    have hr := h.row x hx
    rw [isRowD_encW, Bool.and_eq_true]
    refine ⟨decide_eq_true hr.len, List.all_eq_true.mpr fun v hv => ?_⟩
    have := hr.val v hv
    rw [Bool.and_eq_true]
    exact ⟨decide_eq_true this.1, decide_eq_true this.2⟩
def treadO (w : Int) (x : Str) : Out ⊕ Nat := match dueB w x with
  | some rows => .inl (.val (encT w rows))
  | none => .inr 18
def CX_tread : List D → Out ⊕ Nat → Prop := fun ds o => (∃ d t : D, ds = [.cls 1, d, t] ∧ Kv d ∧ betw d 1 6 = false ∧ o = .inr 11) ∨ (∃ (w : Int) (d : D), ds = [.cls 1, .int w, d] ∧ 1 ≤ w ∧ w ≤ 6 ∧ Kv d ∧ isK "str" d = false ∧ o = .inr 18) ∨ ∃ (w : Int) (x : Str), ds = [.cls 1, .int w, .str x] ∧ 1 ≤ w ∧ w ≤ 6 ∧ x.length ≤ 90000 ∧ o = treadO w x
end Pr
namespace Pr
open PySem L2 Fx Mt Mu
section
variable {P : Program} {w : World} {G : Gx} {mg : Str → Option Value} {base : Heap}
theorem ok_Xis_row {f : Addr} {fd : FuncData} (F : L2.Fun G.K "is_row" "is_row" s_is_row f fd) (hb : Binds G.K fd ["thing", "width"] []) (T : Tx mg) (V : TxT mg) (HO : Ocs G) (F_is_between : Fn0 G P w mg base 2 "is_between" C_is_betweenX) : FnR P w G.K mg base CX0 3 f (sp0 G C_is_rowX) := by
  refine fn0 F sc_is_row hb (fun ds o ⟨x, w, e, _⟩ => by rw [e]; rfl) (by decide) fun cdv A outer s H E hr ds o hC => ?_
  obtain ⟨d, wd, rfl, hd, hl, rfl⟩ := hC
  rcases hd with ⟨hk, ht⟩ | ⟨xs, rfl, hx⟩
  · refine sx_cons (sx_if (et_w (ew_orT (et_is (et_not (et_val (ev_isK (T' := "tuple") (ev_v 0 rfl) hk HO (by decide) T.isinstance rfl T.tuple rfl (by decide +kernel)))) (by rw [ht]; rfl)))) (fun hb => sx_one (sx_ret ev_bl ?_)) (fun hb => by cases hb))
    show _ = D.bl _
    congr 1
    unfold isRowD
    split
    · exact absurd rfl (isK_notT ht _)
    · rfl
  · have kt : Kv (.tup xs) := .inl ⟨_, rfl, by decide⟩
    have hl := hl xs rfl
    refine sx_cons (sx_if (et_w (ew_orF (et_is (et_not (et_val (ev_isK (T' := "tuple") (ev_v 0 rfl) kt HO (by decide) T.isinstance rfl T.tuple rfl (by decide +kernel)))) (isK_tup _)) (ew_or1 (et_c c_ne (ev_lenT (ev_v 0 rfl) T.len rfl) (ev_v 1 rfl))))) (fun hb => ?_) (fun hb => sx_nil ?_))
    · refine sx_one (sx_ret ev_bl ?_)
      have h1 : decide ((xs.length : Int) = wd) = false := by simpa using hb
      show D.bl false = D.bl (decide ((xs.length : Int) = wd) && _)
      rw [h1]
      rfl
    have h1 : decide ((xs.length : Int) = wd) = true := by simpa using hb
    have hid : xs.map (fun d : D => d) = xs := List.map_id' xs
    refine sx_one (sx_ret (ev_is (ev_all (bs := xs.map fun v => betw v 0 9999) (ev_is (EvN.ev (evn_lc (own := [("part", 2)]) (evn_pure xs (fun d => d) (fun _ => true) (fun v => .bl (betw v 0 9999)) (ei_is (ei_tup (ev_v 0 rfl)) hid.symm) (by omega) fun v hv => ⟨_, _, by decide, fun _ _ _ _ _ => (eg_name 2 sc_is_row.nd rfl (.inl rfl) (.inr rfl)), fun _ _ _ _ _ => ets_nil, fun _ _ _ _ _ _ => ev_fn0 F_is_between hr (by decide) (evv_cons (ev_v 2 rfl) (evv_cons ev_int (evv_cons (ev_gint rfl V.MOST_VALUE) evv_nil))) ⟨v, 0, 9999, rfl, hx v hv, rfl⟩ (by rfl), rfl⟩) rfl sc_is_row.nd (blkOk_by (N := N_is_row) (sc := defScope s_is_row) (by decide +kernel)))) ?_) rfl T.all rfl) ?_) rfl)
    · rw [List.filter_eq_self.mpr (by simp), List.map_map]
      rfl
    · show _ = D.bl (decide ((xs.length : Int) = wd) && xs.all fun v => betw v 0 9999)
      rw [h1, List.all_map]
      rfl
theorem ok_Xare_rows {f : Addr} {fd : FuncData} (F : L2.Fun G.K "are_rows" "are_rows" s_are_rows f fd) (hb : Binds G.K fd ["things", "width"] []) (T : Tx mg) (V : TxT mg) (F_is_row : Fn0 G P w mg base 3 "is_row" C_is_rowX) : FnR P w G.K mg base CX0 4 f (sp0 G C_are_rowsX) := by
  refine fn0 F sc_are_rows hb (fun ds o ⟨q, rows, w, e, _⟩ => by rw [e]; rfl) (by decide) fun cdv A outer s H E hr ds o hC => ?_
  obtain ⟨q, xs, wd, rfl, hq, hkd, hz, rfl⟩ := hC
  have hid : xs.map (fun d : D => d) = xs := List.map_id' xs
  refine sx_one (sx_ret (ev_is (ev_and (ev_c c_le (ev_lenQ hq (ev_v 0 rfl) T.len rfl) (ev_gint rfl V.MOST_ROWS)) fun _ => ev_one (ev_all (bs := xs.map (isRowD wd)) (ev_is (EvN.ev (evn_lc (own := [("thing", 2)]) (evn_pure xs (fun d => d) (fun _ => true) (fun d => .bl (isRowD wd d)) (ei_is (ei_lp (ev_v 0 rfl) hq) hid.symm) (by omega) fun d hd => ⟨_, _, by decide, fun _ _ _ _ _ => (eg_name 2 sc_are_rows.nd rfl (.inl rfl) (.inr rfl)), fun _ _ _ _ _ => ets_nil, fun _ _ _ _ _ _ => ev_fn0 F_is_row hr (by decide) (evv_cons (ev_v 2 rfl) (evv_cons (ev_v 1 rfl) evv_nil)) ⟨d, wd, rfl, (hkd d hd).1, (hkd d hd).2, rfl⟩ (by rfl), rfl⟩) rfl sc_are_rows.nd (blkOk_by (N := N_are_rows) (sc := defScope s_are_rows) (by decide +kernel)))) ?_) rfl T.all rfl)) ?_) rfl)
  · rw [List.filter_eq_self.mpr (by simp), List.map_map]
    rfl
  · unfold areRows
    rw [List.all_map]
    rfl
end
end Pr
namespace Pr
open PySem L2 Fx Mt Mu
section
variable {P : Program} {w : World} {G : Gx} {mg : Str → Option Value} {base : Heap}
theorem ok_Xnumber_of {f : Addr} {fd : FuncData} (F : L2.Fun G.K "number_of" "number_of" s_number_of f fd) (hb : Binds G.K fd ["word"] []) (T : Tx mg) (V2 : TxD mg) : FnR P w G.K mg base CX0 1 f (sp0 G C_number_ofX) := by
  refine fn0 F sc_number_of hb (fun ds o ⟨v, e, _⟩ => by rw [e]; rfl) (by decide) fun cdv A outer s H E hr ds o hC => ?_
  obtain ⟨x, rfl, hx, rfl⟩ := hC
  have hal : ((x.cps.toList.map fun c => decide (c ∈ TL.tl ("0123456789" : Str))).all id) = (TL.tl x).all fun c => decide (c ∈ TL.tl ("0123456789" : Str)) := by
    rw [List.all_map]
    rfl
  refine sx_cons (sx_if (k := !digW x) (et_is (et_w (ew_or (et_not (et_cc c_le c_le ev_int (ev_lenS (ev_v 0 rfl) (by omega) T.len rfl) ev_int pt_chain)) fun _ => (ew_or1 (et_not (et_val (ev_all (bs := x.cps.toList.map fun c => decide (c ∈ TL.tl ("0123456789" : Str))) (ev_is (EvN.ev (evn_lc (own := [("sign", 1)]) (evn_pure x.cps.toList (fun c => D.str (sgn c)) (fun _ => true) (fun c => .bl (decide (c ∈ TL.tl ("0123456789" : Str)))) (ei_str (ev_v 0 rfl)) (by rw [Array.length_toList]; exact Nat.lt_of_le_of_lt hx (by decide)) fun c hc => ⟨_, _, by decide, fun _ _ _ _ _ => (eg_name 1 sc_number_of.nd rfl (.inl rfl) (.inr rfl)), fun _ _ _ _ _ => ets_nil, fun _ _ _ _ _ _ => ev_c c_sgn (ev_v 1 rfl) (ev_gstr rfl V2.DIGITS), rfl⟩) rfl sc_number_of.nd (blkOk_by (N := N_number_of) (sc := defScope s_number_of) (by decide +kernel)))) ?_) rfl T.all rfl)))))) ?_) (fun hb => ?_) (fun hb => sx_nil ?_))
  · rw [List.filter_eq_self.mpr (by simp), List.map_map]
    rfl
  · rw [hal]
    unfold digW
    have e1 : decide ((1 : Int) ≤ (x.length : Int)) = decide (1 ≤ x.length) := decide_eq_decide.mpr (by omega)
    have e2 : decide ((x.length : Int) ≤ 4) = decide (x.length ≤ 4) := decide_eq_decide.mpr (by omega)
    rw [e1, e2]
    cases decide (1 ≤ x.length) <;> cases decide (x.length ≤ 4) <;> cases (TL.tl x).all fun c => decide (c ∈ TL.tl ("0123456789" : Str)) <;> rfl
  · have hd : digW x = false := by simpa using hb
    refine sx_one (sx_ret (ev_neg ev_int) ?_)
    show _ = D.int (numW x)
    unfold numW
    rw [hd]
    rfl
  · have hd : digW x = true := by simpa using hb
    obtain ⟨_, h4, _⟩ := digW_spec hd
    exact sx_one (sx_ret (ev_intS (ev_v 0 rfl) (numW_val hd).2 (by rw [TL.len_tl]; omega) T.int rfl) rfl)
end
end Pr

namespace Pr
open PySem L2 Fx Mt Mu
section
variable {P : Program} {w : World} {G : Gx} {mg : Str → Option Value} {base : Heap}
theorem ok_Xtread {f : Addr} {fd : FuncData} (F : L2.Fun G.K "read" "Table.read" s_tread f fd) (hb : Binds G.K fd ["cls", "width", "text"] []) (T : Tx mg) (KT : TC G mg) (HO : Ocs G) (X18 : XC G mg 18 "NoText") (F_need_width : FnX G P w mg base 3 "need_width" CX_need_width) (F_are_rows : Fn0 G P w mg base 4 "are_rows" C_are_rowsX) (F_number_of : Fn0 G P w mg base 1 "number_of" C_number_ofX) (I : PkInit G P w mg base 1 6 C_tinit) (M : PkMeth0 G P w mg base 1 1 "text" C_ttext) : FnR P w G.K mg base (L2.CX P w) 8 f (spX G CX_tread) := by
  refine fnX F sc_tread hb (fun ds o h => by rcases h with ⟨d, t, e, _⟩ | ⟨w, d, e, _⟩ | ⟨w, x, e, _⟩ <;> rw [e] <;> rfl) (by decide) fun cdv A outer s H E hr ds o hC => ?_
  have hbt : ∀ wd : Int, 1 ≤ wd → wd ≤ 6 → (Sum.inl (Out.val D.non) : Out ⊕ Nat) = if betw (.int wd) 1 6 = true then .inl (.val .non) else .inr 11 := fun wd h1 h2 => by
    have : betw (.int wd) 1 6 = true := by
      show (decide (1 ≤ wd) && decide (wd ≤ 6)) = true
      rw [decide_eq_true h1, decide_eq_true h2]
      rfl
    rw [this]
    rfl
  rcases hC with ⟨d, t, rfl, hd, hbf, rfl⟩ | ⟨wd, d, rfl, h1, h2, hd, hs, rfl⟩ | ⟨wd, x, rfl, h1, h2, hx, rfl⟩
  · exact xs_cons (xs_expr (R := fun _ _ => False) (ex_fn F_need_width takesX hr (by decide) (evv_cons (ev_v 1 rfl) evv_nil) (o := .inr 11) ⟨d, rfl, hd, by rw [hbf]; rfl⟩ rfl rfl) fun _ _ z => False.elim z)
  · refine xs_cons (xs_sx (sx_expr (d := .non) (ev_fnX F_need_width hr (by decide) (evv_cons (ev_v 1 rfl) evv_nil) ⟨.int wd, rfl, kv_int _, hbt wd h1 h2⟩ rfl) ?_))
    exact xs_cons (xs_if (et_is (et_w (ew_orT (et_is (et_not (et_val (ev_isK (T' := "str") (ev_v 2 rfl) hd HO (by decide) T.isinstance rfl T.str rfl (by decide +kernel)))) (by rw [hs]; rfl)))) rfl) (fun hb => xs_one (xs_raise X18 takesX rfl rfl rfl)) (fun hb => by cases hb))
  · refine xs_cons (xs_sx (sx_expr (d := .non) (ev_fnX F_need_width hr (by decide) (evv_cons (ev_v 1 rfl) evv_nil) ⟨.int wd, rfl, kv_int _, hbt wd h1 h2⟩ rfl) ?_))
    refine xs_cons (xs_if (et_w (ew_orF (et_is (et_not (et_val (ev_isK (T' := "str") (ev_v 2 rfl) (kv_str x) HO (by decide) T.isinstance rfl T.str rfl (by decide +kernel)))) (by rw [isK_strT]; rfl)) (ew_or1 (et_w (ew_and (et_c c_neS (ev_v 2 rfl) ev_str) fun _ => (ew_and1 (et_not (et_val (ev_endswith (ev_v 2 rfl) ev_str))))))))) (fun hb => ?_) (fun hb => xs_nil ?_))
    · have hn : (decide (x = "") || Txt.endswith x "\n") = false := by
        rw [Bool.and_eq_true] at hb
        rw [Bool.or_eq_false_iff]
        exact ⟨by simpa using hb.1, by simpa using hb.2⟩
      have : treadO wd x = .inr 18 := by
        unfold treadO dueB
        rw [if_neg fun z => by rw [hn] at z; exact Bool.noConfusion z.1]
      rw [this]
      exact xs_one (xs_raise X18 takesX rfl rfl rfl)
    have h0 : (decide (x = "") || Txt.endswith x "\n") = true := by
      cases e1 : decide (x = "") with
      | true => rfl
      | false =>
        rw [e1] at hb
        simpa using hb
    have hll := linesR_len x
    have hcut : D.lst (((List.map D.str (Txt.split x "\n")).drop (HT.sIx (List.map D.str (Txt.split x "\n")).length 0 none)).take (HT.sIx (List.map D.str (Txt.split x "\n")).length (List.map D.str (Txt.split x "\n")).length (some (-1)) - HT.sIx (List.map D.str (Txt.split x "\n")).length 0 none)) = .lst ((linesR x).map D.str) := by
      rw [split_nl h0, List.map_append]
      show D.lst ((((linesR x).map D.str ++ [D.str ("" : Str)]).drop _).take _) = _
      exact congrArg D.lst (cut_lastT _ _)
    have hlx : ∀ l ∈ linesR x, l.length ≤ 90000 := fun l hl => Nat.le_trans (split_len1 tl_nl nl256 (List.dropLast_subset _ hl)) hx
    have hwl : ∀ l ∈ linesR x, (Txt.split l " ").length ≤ 90001 := fun l hl => by
      have h3 := tot_len (Txt.split l " ")
      rw [tot_split tl_sp sp256] at h3
      have := hlx l hl
      omega
    refine xs_cut (fun c => ∃ l, c = [.val (.cls 1), .val (.int wd), .val (.str x), .own l ((linesR x).map fun l => encW (rowW l)), .no, .no, .no]) (xs_sx (sx_setLc 3 (own := [("line", 5)]) (evn_pure (linesR x) D.str (fun _ => true) (fun l => encW (rowW l)) (ei_list (ev_is (EvN.ev (evn_slice po_none (po_some pe_rd) (EvN.ev (evn_split (ev_v 2 rfl) ev_str (by decide +kernel) (by omega))) es_none (es_some (ev_neg ev_int)))) hcut)) (by omega) fun l hl => ⟨_, _, by decide, fun _ _ _ _ _ => (eg_name 5 sc_tread.nd rfl (.inl rfl) (.inr rfl)), fun _ _ _ _ _ => ets_nil, fun _ _ _ _ _ _ => ev_tupleL (ev_is (EvN.ev (evn_lc (own := [("word", 6)]) (evn_pure (Txt.split l " ") D.str (fun _ => true) (fun y => D.int (numW y)) (ei_list (EvN.ev (evn_split (ev_v 5 rfl) ev_str (by decide +kernel) (by have := hlx l hl; omega)))) (by have := hwl l hl; omega) fun y hy => ⟨_, _, by decide, fun _ _ _ _ _ => (eg_name 6 sc_tread.nd rfl (.inl rfl) (.inr rfl)), fun _ _ _ _ _ => ets_nil, fun _ _ _ _ _ _ => ev_fn0 F_number_of hr (by decide) (evv_cons (ev_v 6 rfl) evv_nil) ⟨y, rfl, Nat.le_trans (split_len1 tl_sp sp256 hy) (Nat.le_trans (hlx l hl) (by decide)), rfl⟩ (by rfl), rfl⟩) rfl sc_tread.nd (blkOk_by (N := N_tread) (sc := relT (lcT (atT s_tread 2)) (defScope s_tread)) (by decide +kernel)))) ?_) T.tuple rfl, rfl⟩) (fun l => ⟨l, by rw [List.filter_eq_self.mpr (by simp)]; rfl⟩) rfl sc_tread.nd rfl rfl (sw_true rfl rfl rfl (by decide +kernel)) (blkOk_by (N := N_tread) (sc := defScope s_tread) (by decide +kernel)))) fun c hc => ?_
    · rw [List.filter_eq_self.mpr (by simp)]
      unfold rowW
      rw [List.map_map]
      rfl
    obtain ⟨l, rfl⟩ := hc
    refine xs_frz 3 (l := l) (ds := (linesR x).map fun l => encW (rowW l)) rfl ?_
    have hmm : ((linesR x).map fun l => encW (rowW l)) = ((linesR x).map rowW).map encW := by rw [List.map_map]; rfl
    rw [hmm]
    have hkd : ∀ d ∈ ((linesR x).map rowW).map encW, Kd d ∧ ∀ ys, d = .tup ys → ys.length ≤ 100000 := fun d hd => by
      obtain ⟨r, hr', rfl⟩ := List.mem_map.mp hd
      obtain ⟨l, hl, rfl⟩ := List.mem_map.mp hr'
      refine ⟨kd_row _, fun ys e => ?_⟩
      have e2 : (rowW l).map D.int = ys := by injection e
      rw [← e2, List.length_map]
      unfold rowW
      rw [List.length_map]
      have := hwl l hl
      omega
    cases ha : areRows wd (((linesR x).map rowW).map encW) with
    | false =>
      have hnR : ¬ Rws wd ((linesR x).map rowW) := fun z => by rw [(areRows_Rws wd _).mpr z] at ha; cases ha
      have hro : treadO wd x = .inr 18 := by
        unfold treadO
        cases hd : dueB wd x with
        | none => rfl
        | some rows =>
          obtain ⟨g1, _, g3⟩ := dueB_ok hd
          rw [g3] at g1
          exact absurd g1 hnR
      rw [hro]
      exact xs_cons (xs_if (et_is (et_not (et_val (ev_fn0 F_are_rows hr (by decide) (evv_cons (ev_v 3 rfl) (evv_cons (ev_v 1 rfl) evv_nil)) ⟨_, _, wd, rfl, .inl rfl, hkd, by rw [List.length_map, List.length_map]; omega, rfl⟩ rfl))) (by rw [ha])) (fun hb => xs_one (xs_raise X18 takesX rfl rfl rfl)) (fun hb => by cases hb))
    | true =>
      have hR := (areRows_Rws wd _).mp ha
      have hdue := dueB_of h1 h0 hR
      have hfew := hR.few
      refine xs_cons (xs_if (et_is (et_not (et_val (ev_fn0 F_are_rows hr (by decide) (evv_cons (ev_v 3 rfl) (evv_cons (ev_v 1 rfl) evv_nil)) ⟨_, _, wd, rfl, .inl rfl, hkd, by rw [List.length_map, List.length_map]; omega, rfl⟩ rfl))) (by rw [ha])) (fun hb => by cases hb) (fun hb => xs_nil ?_))
      generalize hrows : (linesR x).map rowW = rows at hR hdue hfew
      refine xs_cons (xs_sx (sx_set 4 (ev_makeLSP (c := 1) 0 I hr (by decide) rfl (evv_cons (ev_v 1 rfl) (evv_star (ev_v 3 rfl) evv_nil (.inl rfl))) (by simp; omega) ⟨wd, rows, by rw [List.append_nil], hR, h1, h2, rfl⟩ rfl (.inl rfl)) ?_ sc_tread.nd rfl (.inl rfl) (.inl rfl)))
      refine xs_cons (xs_if (et_c c_neS (ev_meth0P M (ev_v 4 rfl) KT.cl (by rw [KT.fld]; decide +kernel) hr (by decide) ⟨wd, rows, rfl, hR, h2, rfl⟩) (ev_v 2 rfl)) (fun hb => ?_) (fun hb => xs_nil ?_))
      · have hne : rwsT rows ≠ x := by simpa using hb
        have hro : treadO wd x = .inr 18 := by
          unfold treadO
          rw [hdue, if_neg hne]
        rw [hro]
        exact xs_one (xs_raise X18 takesX rfl rfl rfl)
      · have he : rwsT rows = x := by simpa using hb
        have hro : treadO wd x = .inl (.val (encT wd rows)) := by
          unfold treadO
          rw [hdue, if_pos he]
        rw [hro]
        exact xs_one (xs_sx (sx_ret (ev_v 4 rfl) rfl))
end
end Pr

namespace Pr
open PySem L2 Fx Mt
def penD (p : Pn) : List D := [.int p.1, .int p.2.1, .int p.2.2]
theorem penD_inj {p q : Pn} (h : penD p = penD q) : p = q := by
  unfold penD at h
  injection h with h1 h
  injection h with h2 h
  injection h with h3 _
  injection h1 with h1
  injection h2 with h2
  injection h3 with h3
  exact Prod.ext h1 (Prod.ext h2 h3)
def mixB (b c : Int) : Int := (b * 48271 + 1009 * c + 7) % 2147483647
def mixC (b : Int) : Int := (b * b + 69621 * b + 11) % 2147483629
def mixD (m : Int) : Int := (m * m + 40014 * m) % 2147483587
def dr2 (p : Pn) (m : Int) : Int × Pn :=
  if 0 < p.1 then (p.1 % m, (p.1 / m, p.2.1, p.2.2)) else (mixD (mixC (mixB p.2.1 (p.2.2 + 1))) / 16 % m, (p.1, mixB p.2.1 (p.2.2 + 1), p.2.2 + 1))
def Gd2 (n : Int) (p : Pn) : Prop := 0 ≤ p.2.1 ∧ p.2.1 < 2147483648 ∧ 0 ≤ p.2.2 ∧ p.2.2 ≤ n
def Nx2 (k : Int) (p q : Pn) : Prop := ∀ n, Gd2 n p → Gd2 (n + k) q
theorem dr2_lo (p : Pn) {m : Int} (h : 0 < m) : 0 ≤ (dr2 p m).1 ∧ (dr2 p m).1 < m := by
  unfold dr2
  split <;> exact ⟨Int.emod_nonneg _ (by omega), Int.emod_lt_of_pos _ h⟩
theorem mixB_lo (b c : Int) : 0 ≤ mixB b c ∧ mixB b c < 2147483647 := ⟨Int.emod_nonneg _ (by decide), Int.emod_lt_of_pos _ (by decide)⟩
theorem mixC_lo (b : Int) : 0 ≤ mixC b ∧ mixC b < 2147483629 := ⟨Int.emod_nonneg _ (by decide), Int.emod_lt_of_pos _ (by decide)⟩
theorem mixD_lo (b : Int) : 0 ≤ mixD b ∧ mixD b < 2147483587 := ⟨Int.emod_nonneg _ (by decide), Int.emod_lt_of_pos _ (by decide)⟩
theorem dr2_nx (p : Pn) (m : Int) : Nx2 1 p (dr2 p m).2 := fun n h => by
  unfold Gd2 at h ⊢
  unfold dr2
  split
  · show 0 ≤ p.2.1 ∧ p.2.1 < 2147483648 ∧ 0 ≤ p.2.2 ∧ p.2.2 ≤ n + 1
    omega
  · show 0 ≤ mixB p.2.1 (p.2.2 + 1) ∧ mixB p.2.1 (p.2.2 + 1) < 2147483648 ∧ 0 ≤ p.2.2 + 1 ∧ p.2.2 + 1 ≤ n + 1
    have := mixB_lo p.2.1 (p.2.2 + 1)
    omega
theorem Gd2.le {b c : Int} {p : Pn} (h : Gd2 b p) (hc : b ≤ c) : Gd2 c p := by unfold Gd2 at *; omega
theorem Nx2.refl (p : Pn) : Nx2 0 p p := fun n h => h.le (by omega)
theorem Nx2.trans {j k : Int} {p q r : Pn} (h : Nx2 j p q) (h2 : Nx2 k q r) : Nx2 (j + k) p r := fun n g => by
  have := h2 _ (h n g)
  rw [Int.add_assoc] at this
  exact this
theorem Nx2.le {j k : Int} {p q : Pn} (h : Nx2 j p q) (hk : j ≤ k) : Nx2 k p q := fun n g => (h n g).le (by omega)
theorem Gd2.nx {b c k : Int} {p q : Pn} (h : Gd2 b p) (hn : Nx2 k p q) (hc : b + k ≤ c) : Gd2 c q := (hn b h).le hc
theorem div_ok {m : Int} (h0 : 0 < m) (h : m ≤ 1000000) (i : Int) : CDivW i m := ⟨h0, by
  have h2 : m.natAbs < 2 ^ 20 := by omega
  have : m.natAbs.log2 < 20 := (Nat.log2_lt (by omega)).mpr h2
  omega⟩
theorem mul_r {i j : Int} (h1 : -1000000000000000000 < j) (h2 : j < 1000000000000000000) : CMul i j := .inr ⟨by omega, by omega⟩
theorem mul_l {i j : Int} (h1 : -1000000000000000000 < i) (h2 : i < 1000000000000000000) : CMul i j := .inl ⟨by omega, by omega⟩
def C_cell : List D → Out → Prop := fun ds o => ∃ (ns : List Int) (k : Nat), ds = [.scr ns, .int (k : Int)] ∧ o = .val (.int (ns.getD k 0))
def C_source : List D → Out → Prop := fun ds o => ∃ i : Int, ds = [.int i] ∧ o = .new (penD (if i - 10 ^ 18 > 0 then i - 10 ^ 18 else 0, i % 2147483629 + 1, 0))
def C_draw : List D → List D → Out → List D → Prop := fun qs ds o qs' => ∃ (p : Pn) (m : Int), qs = penD p ∧ ds = [.int m] ∧ 0 < m ∧ m ≤ 1000000 ∧ Gd2 1000000000 p ∧ o = .val (.int (dr2 p m).1) ∧ qs' = penD (dr2 p m).2
def ksOk (s : Str) : Prop := s = "s" ∨ s = "w" ∨ s = "sw"
def B_choose : List D → List D → Prop := fun qs ds => ∃ (p : Pn) (v : D), qs = penD p ∧ ds = [v] ∧ Gd2 100000000 p ∧ ((∃ xs, v = .lst xs ∧ 0 < xs.length ∧ xs.length ≤ 1000) ∨ ∃ s, v = .str s ∧ ksOk s)
def R_choose : List D → List D → D → List D → Prop := fun qs ds d qs' => ∃ (p p' : Pn), qs = penD p ∧ qs' = penD p' ∧ Nx2 1 p p' ∧ (∀ xs, ds = [.lst xs] → d ∈ xs) ∧ (∀ s, ds = [.str s] → ∃ t, d = .str t)
def C_equal : List D → Out → Prop := fun ds o => ∃ x : D, ds = [x, x] ∧ Shows x ∧ o = .val (.bl true)
end Pr
namespace Pr
open PySem L2 Fx Mt
abbrev s_law_cell : Stmt := top 36
section
variable {P : Program} {w : World} {G : Gx} {mg : Str → Option Value} {base : Heap}
theorem sc_law_cell : FnScope ["_law_script", "_law_index"] ["_law_script", "_law_index"] (defScope s_law_cell) := ⟨rfl, rfl, rfl, by decide +kernel, rfl, by decide +kernel, by decide +kernel⟩
theorem ok_law_cell {f : Addr} {fd : FuncData} (F : L2.Fun G.K "_law_cell" "_law_cell" s_law_cell f fd) (hb : Binds G.K fd ["_law_script", "_law_index"] []) (T : Tx mg) : FnR P w G.K mg base CX0 1 f (sp0 G C_cell) := by
  refine fn0 F sc_law_cell hb (fun ds o ⟨ns, k, e, _⟩ => by rw [e]; rfl) (by decide) fun cdv A outer s H E hr ds o hC => ?_
  obtain ⟨ns, k, rfl, rfl⟩ := hC
  refine sx_cons (sx_if (et_c c_lt (ev_var 1 rfl rfl (.inl rfl)) (ev_lenScr (ev_var 0 rfl rfl (.inl rfl)) T.len rfl)) (fun hb => ?_) (fun hb => ?_))
  · have hk : k < ns.length := by have := of_decide_eq_true hb; omega
    refine sx_one (sx_ret (ev_i (i_scr (m := k) (j := ns.getD k 0) (ixN_nat hk) (by rw [List.getElem?_eq_getElem hk, List.getD_eq_getElem?_getD, List.getElem?_eq_getElem hk]; rfl)) (ev_var 0 rfl rfl (.inl rfl)) (ev_var 1 rfl rfl (.inl rfl))) rfl)
  · have hk : ns.length ≤ k := by have := of_decide_eq_false hb; omega
    refine sx_nil (sx_one (sx_ret ev_int ?_))
    rw [List.getD_eq_getElem?_getD, List.getElem?_eq_none hk]
    rfl
end
end Pr
namespace Pr
open PySem L2 Fx Mt
abbrev s_law_source : Stmt := top 37
section
variable {P : Program} {w : World} {G : Gx} {mg : Str → Option Value} {base : Heap}
theorem sc_law_source : FnScope ["_law_cell_here"] ["_law_cell_here"] (defScope s_law_source) := ⟨rfl, rfl, rfl, by decide +kernel, rfl, by decide +kernel, by decide +kernel⟩
theorem ok_law_source {f : Addr} {fd : FuncData} (F : L2.Fun G.K "_law_source" "_law_source" s_law_source f fd) (hb : Binds G.K fd ["_law_cell_here"] []) (T : Tx mg) : FnR P w G.K mg base CX0 1 f (sp0 G C_source) := by
  refine fn0 F sc_law_source hb (fun ds o ⟨i, e, _⟩ => by rw [e]; rfl) (by decide) fun cdv A outer s H E hr ds o hC => ?_
  obtain ⟨i, rfl, rfl⟩ := hC
  refine sx_one (sx_retN (evn_lst (evv_cons (ev_max2 (evv_cons ev_int (evv_cons (ev_b b_sub (ev_var 0 rfl rfl (.inl rfl)) (ev_b (b_pow (by unfold CPow; decide)) ev_int ev_int)) evv_nil)) rfl T.max rfl) (evv_cons (ev_b b_add (ev_b (b_mod (by decide)) (ev_var 0 rfl rfl (.inl rfl)) ev_int) ev_int) (evv_cons ev_int evv_nil))) rfl) ?_)
  rfl
end
end Pr
namespace Pr
open PySem L2 Fx Mt
abbrev s_law_draw : Stmt := top 38
abbrev N_law_draw : List Str := ["_law_source_here", "_law_many", "_law_mixed", "_law_found"]
section
variable {P : Program} {w : World} {G : Gx} {mg : Str → Option Value} {base : Heap}
theorem sc_law_draw : FnScope N_law_draw ["_law_source_here", "_law_many"] (defScope s_law_draw) := ⟨rfl, rfl, rfl, by decide +kernel, rfl, by decide +kernel, by decide +kernel⟩
theorem ok_law_draw {f : Addr} {fd : FuncData} (F : L2.Fun G.K "_law_draw" "_law_draw" s_law_draw f fd) (hb : Binds G.K fd ["_law_source_here", "_law_many"] []) : FnR P w G.K mg base CX0 1 f (sp1 G C_draw) := by
  refine fn1 F sc_law_draw hb (fun qs ds o qs' ⟨p, m, _, e, _⟩ => by rw [e]; rfl) (by decide) fun cdv A outer s H E hr l qs ds o qs' hC => ?_
  obtain ⟨p, m, rfl, rfl, h0, h1, hg, rfl, rfl⟩ := hC
  unfold Gd2 at hg
  have mb := mixB_lo p.2.1 (p.2.2 + 1)
  have mc := mixC_lo (mixB p.2.1 (p.2.2 + 1))
  refine sx_cons (sx_if (et_c c_gt (ev_iO 0 (i_lst (m := 0) rfl rfl) rfl ev_int rfl rfl rfl (.inl rfl)) ev_int) (fun hb => ?_) (fun hb => ?_))
  · have hp : 0 < p.1 := of_decide_eq_true hb
    refine sx_cons (sx_set 3 (ev_b (b_mod h0) (ev_iO 0 (i_lst (m := 0) rfl rfl) rfl ev_int rfl rfl rfl (.inl rfl)) (ev_var 1 rfl rfl (.inl rfl))) ?_ sc_law_draw.nd rfl (.inl rfl) (.inl rfl))
    refine sx_cons (sx_setIx 0 (m := 0) (ev_b (b_div (div_ok h0 h1 _)) (ev_iO 0 (i_lst (m := 0) rfl rfl) rfl ev_int rfl rfl rfl (.inl rfl)) (ev_var 1 rfl rfl (.inl rfl))) ev_int rfl rfl rfl ?_ rfl (.inl rfl))
    refine sx_one (sx_ret (ev_var 3 rfl rfl (.inl rfl)) ?_)
    unfold dr2
    rw [if_pos hp]
    exact ⟨rfl, rfl⟩
  · have hp : ¬ 0 < p.1 := of_decide_eq_false hb
    refine sx_nil ?_
    refine sx_cons (sx_setIx 0 (m := 2) (ev_b b_add (ev_iO 0 (i_lst (m := 2) rfl rfl) rfl ev_int rfl rfl rfl (.inl rfl)) ev_int) ev_int rfl rfl rfl ?_ rfl (.inl rfl))
    refine sx_cons (sx_setIx 0 (m := 1) (d := .int (mixB p.2.1 (p.2.2 + 1))) (ev_b (b_mod (by decide)) (ev_b b_add (ev_b b_add (ev_b (b_mul (mul_r (by decide) (by decide))) (ev_iO 0 (i_lst (m := 1) rfl rfl) rfl ev_int rfl rfl rfl (.inl rfl)) ev_int) (ev_b (b_mul (mul_l (by decide) (by decide))) ev_int (ev_iO 0 (i_lst (m := 2) rfl rfl) rfl ev_int rfl rfl rfl (.inl rfl)))) ev_int) ev_int) ev_int rfl rfl rfl ?_ rfl (.inl rfl))
    refine sx_cons (sx_set 2 (d := .int (mixC (mixB p.2.1 (p.2.2 + 1)))) (ev_b (b_mod (by decide)) (ev_b b_add (ev_b b_add (ev_b (b_mul (mul_r (by omega) (by omega))) (ev_iO 0 (i_lst (m := 1) (z := .int (mixB p.2.1 (p.2.2 + 1))) rfl rfl) rfl ev_int rfl rfl rfl (.inl rfl)) (ev_iO 0 (i_lst (m := 1) (z := .int (mixB p.2.1 (p.2.2 + 1))) rfl rfl) rfl ev_int rfl rfl rfl (.inl rfl))) (ev_b (b_mul (mul_l (by decide) (by decide))) ev_int (ev_iO 0 (i_lst (m := 1) (z := .int (mixB p.2.1 (p.2.2 + 1))) rfl rfl) rfl ev_int rfl rfl rfl (.inl rfl)))) ev_int) ev_int) ?_ sc_law_draw.nd rfl (.inl rfl) (.inl rfl))
    refine sx_cons (sx_set 2 (d := .int (mixD (mixC (mixB p.2.1 (p.2.2 + 1))))) (ev_b (b_mod (by decide)) (ev_b b_add (ev_b (b_mul (mul_r (by omega) (by omega))) (ev_var 2 rfl rfl (.inl rfl)) (ev_var 2 rfl rfl (.inl rfl))) (ev_b (b_mul (mul_l (by decide) (by decide))) ev_int (ev_var 2 rfl rfl (.inl rfl)))) ev_int) ?_ sc_law_draw.nd rfl (.inl rfl) (.inl rfl))
    refine sx_one (sx_ret (ev_b (b_mod h0) (ev_b (b_div (div_ok (by decide) (by decide) _)) (ev_var 2 rfl rfl (.inl rfl)) ev_int) (ev_var 1 rfl rfl (.inl rfl))) ?_)
    unfold dr2
    rw [if_neg hp]
    exact ⟨rfl, rfl⟩
end
end Pr
namespace Pr
open PySem L2 Fx Mt
abbrev s_law_choose : Stmt := top 39
section
variable {P : Program} {w : World} {G : Gx} {mg : Str → Option Value} {base : Heap}
theorem sc_law_choose : FnScope ["_law_source_here", "_law_values"] ["_law_source_here", "_law_values"] (defScope s_law_choose) := ⟨rfl, rfl, rfl, by decide +kernel, rfl, by decide +kernel, by decide +kernel⟩
theorem i_strAt {X : Cx} {s : Str} {i : Int} {c : Nat} (hz : s.length ≤ 1000) (h : atI s.cps.toList i = some c) : IxJ G X (.str s) (.int i) (.str ⟨#[c]⟩) := ⟨_, ix_str, fun F H v w Q sm h1 h2 q => by
  cases h1
  cases h2
  exact ⟨s, i, c, rfl, rfl, by rw [sizeLine_eq]; omega, h, q _ F H (.refl sm) rfl⟩⟩
theorem ks_len {s : Str} (h : ksOk s) : 0 < s.length ∧ s.length ≤ 2 := by rcases h with rfl | rfl | rfl <;> decide +kernel
theorem ok_law_choose {f : Addr} {fd : FuncData} (F : L2.Fun G.K "_law_choose" "_law_choose" s_law_choose f fd) (hb : Binds G.K fd ["_law_source_here", "_law_values"] []) (T : Tx mg) (F_draw : Fn1 G P w mg base 1 "_law_draw" C_draw) : FnR P w G.K mg base CX0 2 f (sp1R G B_choose R_choose) := by
  refine fn1R F sc_law_choose hb (fun qs ds ⟨p, v, _, e, _⟩ => by rw [e]; rfl) (by decide) fun cdv A outer s H E hr l qs ds hC => ?_
  obtain ⟨p, v, rfl, rfl, hg, hv⟩ := hC
  rcases hv with ⟨xs, rfl, h0, h1⟩ | ⟨t, rfl, ht⟩
  · have d1 := dr2_lo p (m := (xs.length : Int)) (by omega)
    obtain ⟨k, hk⟩ : ∃ k : Nat, (dr2 p (xs.length : Int)).1 = (k : Int) := ⟨(dr2 p (xs.length : Int)).1.toNat, by omega⟩
    have hkl : k < xs.length := by omega
    refine sx_one (sx_ret (ev_i (i_lst (m := k) (z := xs[k]) (by rw [hk]; exact ixN_nat hkl) (List.getElem?_eq_getElem hkl)) (ev_var 1 rfl rfl (.inl rfl)) (ev_fn1 0 F_draw hr (by decide) (evp_cons (i := 0) rfl rfl (.inl rfl) (evv_cons (ev_lenL (ev_var 1 rfl rfl (.inl rfl)) T.len rfl) evv_nil)) rfl ⟨p, (xs.length : Int), rfl, rfl, by omega, by omega, hg.le (by decide), rfl, rfl⟩ rfl)) ?_)
    refine ⟨penD (dr2 p (xs.length : Int)).2, ⟨p, _, rfl, rfl, dr2_nx p _, fun ys e => ?_, fun s e => by cases e⟩, rfl⟩
    cases e
    exact List.getElem_mem hkl
  · have hl := ks_len ht
    have d1 := dr2_lo p (m := (t.length : Int)) (by omega)
    obtain ⟨k, hk⟩ : ∃ k : Nat, (dr2 p (t.length : Int)).1 = (k : Int) := ⟨(dr2 p (t.length : Int)).1.toNat, by omega⟩
    have hkl : k < t.cps.toList.length := by
      have e : t.cps.toList.length = t.length := by simp [Str.length]
      omega
    refine sx_one (sx_ret (ev_i (i_strAt (c := t.cps.toList[k]) (by omega) (by rw [hk]; rw [Fx.atI_get (j := k) (ixN_nat hkl)]; exact List.getElem?_eq_getElem hkl)) (ev_var 1 rfl rfl (.inl rfl)) (ev_fn1 0 F_draw hr (by decide) (evp_cons (i := 0) rfl rfl (.inl rfl) (evv_cons (ev_lenS (ev_var 1 rfl rfl (.inl rfl)) (by omega) T.len rfl) evv_nil)) rfl ⟨p, (t.length : Int), rfl, rfl, by omega, by omega, hg.le (by decide), rfl, rfl⟩ rfl)) ?_)
    refine ⟨penD (dr2 p (t.length : Int)).2, ⟨p, _, rfl, rfl, dr2_nx p _, ?_, ?_⟩, rfl⟩
    · intro ys e
      cases e
    · intro s e
      exact ⟨_, rfl⟩
end
end Pr
namespace Pr
open PySem L2 Fx Mt
abbrev s_law_is_equal : Stmt := top 40
section
variable {P : Program} {w : World} {G : Gx} {mg : Str → Option Value} {base : Heap}
theorem sc_law_is_equal : FnScope ["_law_actual", "_law_expected"] ["_law_actual", "_law_expected"] (defScope s_law_is_equal) := ⟨rfl, rfl, rfl, by decide +kernel, rfl, by decide +kernel, by decide +kernel⟩
theorem ok_law_is_equal {f : Addr} {fd : FuncData} (F : L2.Fun G.K "_law_is_equal" "_law_is_equal" s_law_is_equal f fd) (hb : Binds G.K fd ["_law_actual", "_law_expected"] []) (T : Tx mg) : FnG P w G.K mg base 1 f (sp0 G C_equal) := by
  refine fn0G F sc_law_is_equal hb (fun ds o ⟨x, e, _⟩ => by rw [e]; rfl) (by decide) fun cdv A outer s H E hr gd ds o hC => ?_
  obtain ⟨x, rfl, hx, rfl⟩ := hC
  have hu65 : (cx0 P w G.K mg base ["_law_actual", "_law_expected"] "_law_is_equal" s_law_is_equal f cdv A outer s H E).A.units + 65 < cLine := by have := hr.un; omega
  refine sx_one (sx_ret (ev_is (ev_c c_eqS (ev_repr hx (ev_var 0 rfl rfl (.inl rfl)) gd hu65 T.repr rfl) (ev_repr hx (ev_var 1 rfl rfl (.inl rfl)) gd hu65 T.repr rfl)) (congrArg D.bl (decide_eq_true rfl))) rfl)
end
end Pr

namespace Pr
open PySem L2 Fx Mt
theorem sx_try {X : Cx} {G : Gx} {cs : List Cell} {P : Post} {body : List Stmt} {h₀ : ExceptHandler} {hs : List ExceptHandler} {pos : Pos} (h : Sx G (rdSs X body) cs P) (hn : ∀ e s, ¬ X.xe e s := by exact fun _ _ h => h) : Sx G (rdS X (.Try body (h₀ :: hs) [] [] pos)) cs P :=
  sx_of (ps_try_never hn pss_rd pss_nil) fun F σ H E rl k1 k2 k3 k4 k5 => h F σ H _ rl k1 k2 k3 k4 k5
/-- a row at hand: so wide, its values from 0 to b -/
def okC (n : Nat) (b : Int) (c : List Int) : Prop := c.length = n ∧ ∀ v ∈ c, 0 ≤ v ∧ v ≤ b
theorem okC.set {n : Nat} {b : Int} {c : List Int} (h : okC n b c) (i : Nat) {v : Int} (hv : 0 ≤ v ∧ v ≤ b) : okC n b (c.set i v) := ⟨by rw [List.length_set]; exact h.1, fun u hu => by
  rcases List.mem_or_eq_of_mem_set hu with hu | hu
  · exact h.2 u hu
  · rw [hu]; exact hv⟩
def B_lines : List D → List D → Prop := fun qs ds => ∃ (p : Pn) (w most value : Nat), qs = penD p ∧ ds = [.int (w : Int), .int (most : Int), .int (value : Int)] ∧ 1 ≤ w ∧ w ≤ 6 ∧ most ≤ 50 ∧ value ≤ 9999 ∧ Gd2 10000000 p
def R_lines : List D → List D → D → List D → Prop := fun qs ds d qs' => ∃ (p p' : Pn) (w most value : Nat) (rows : List (List Int)), qs = penD p ∧ qs' = penD p' ∧ ds = [.int (w : Int), .int (most : Int), .int (value : Int)] ∧ d = .lst (rows.map encW) ∧ rows.length ≤ most ∧ (∀ x ∈ rows, okC w (value : Int) x) ∧ Nx2 (10 + 10 * (most : Int)) p p'
theorem rws_okC {w : Nat} {value : Nat} {rows : List (List Int)} (h : ∀ x ∈ rows, okC w (value : Int) x) (hv : value ≤ 9999) (hl : rows.length ≤ 400) : Rws (w : Int) rows := ⟨hl, fun x hx => ⟨by rw [(h x hx).1], fun v hv2 => ⟨((h x hx).2 v hv2).1, by have := ((h x hx).2 v hv2).2; omega⟩⟩⟩
theorem fine_encWs (rows : List (List Int)) : fine (.lst (rows.map encW)) := fine_lst fun d hd => by
  obtain ⟨x, _, rfl⟩ := List.mem_map.mp hd
  exact ⟨tup_ints.1, Nat.le_trans tup_ints.2 (by decide)⟩
end Pr
namespace Pr
open PySem L2 Fx Mt
abbrev s_law_lines : Stmt := top 41
abbrev N_law_lines : List Str := ["_law_source_here", "_law_width", "_law_most", "_law_value", "_law_turn", "_law_found", "_law_many", "_law_way", "_law_one", "_law_other", "_law_row", "_law_column"]
def ncs (l lf : Addr) (p : Pn) (rows : List (List Int)) (wd most value many : Nat) (way : Int) (one other : Nat) (c4 c10 : Cell) : List Cell := [.own l (penD p), .val (.int (wd : Int)), .val (.int (most : Int)), .val (.int (value : Int)), c4, .own lf (rows.map encW), .val (.int (many : Int)), .val (.int way), .val (.int (one : Int)), .val (.int (other : Int)), c10, .no]
section
variable {P : Program} {w : World} {G : Gx} {mg : Str → Option Value} {base : Heap}
theorem sc_law_lines : FnScope N_law_lines ["_law_source_here", "_law_width", "_law_most", "_law_value"] (defScope s_law_lines) := ⟨rfl, rfl, rfl, by decide +kernel, rfl, by decide +kernel, by decide +kernel⟩
theorem ok_law_lines {f : Addr} {fd : FuncData} (F : L2.Fun G.K "_law_lines" "_law_lines" s_law_lines f fd) (hb : Binds G.K fd ["_law_source_here", "_law_width", "_law_most", "_law_value"] []) (T : Tx mg) (F_draw : Fn1 G P w mg base 1 "_law_draw" C_draw) : FnR P w G.K mg base CX0 2 f (sp1R G B_lines R_lines) := by
  refine fn1R F sc_law_lines hb (fun qs ds ⟨p, w, m, v, _, e, _⟩ => by rw [e]; rfl) (by decide) fun cdv A outer s H E hr l qs ds hC => ?_
  obtain ⟨p, wd, most, value, rfl, rfl, h1, h6, hm, hv, hg⟩ := hC
  have hu64 : (cx0 P w G.K mg base N_law_lines "_law_lines" s_law_lines f cdv A outer s H E).A.units + 64 < cLine := by have := hr.un; omega
  have d1 := dr2_lo p (m := (most : Int) + 1) (by omega)
  have n1 := dr2_nx p ((most : Int) + 1)
  have g1 := hg.nx n1 (c := 10000001) (by decide)
  obtain ⟨many, hmany⟩ : ∃ n : Nat, (dr2 p ((most : Int) + 1)).1 = (n : Int) := ⟨(dr2 p ((most : Int) + 1)).1.toNat, by omega⟩
  generalize hp1 : (dr2 p ((most : Int) + 1)).2 = p1 at n1 g1
  have d2 := dr2_lo p1 (m := 5) (by decide)
  have n2 := dr2_nx p1 5
  have g2 := g1.nx n2 (c := 10000002) (by decide)
  generalize hway : (dr2 p1 5).1 = way at d2
  generalize hp2 : (dr2 p1 5).2 = p2 at n2 g2
  have d3 := dr2_lo p2 (m := (wd : Int)) (by omega)
  have n3 := dr2_nx p2 (wd : Int)
  have g3 := g2.nx n3 (c := 10000003) (by decide)
  obtain ⟨one, hone⟩ : ∃ n : Nat, (dr2 p2 (wd : Int)).1 = (n : Int) := ⟨(dr2 p2 (wd : Int)).1.toNat, by omega⟩
  generalize hp3 : (dr2 p2 (wd : Int)).2 = p3 at n3 g3
  have d4 := dr2_lo p3 (m := (wd : Int)) (by omega)
  have n4 := dr2_nx p3 (wd : Int)
  have g4 := g3.nx n4 (c := 10000004) (by decide)
  obtain ⟨other, hother⟩ : ∃ n : Nat, (dr2 p3 (wd : Int)).1 = (n : Int) := ⟨(dr2 p3 (wd : Int)).1.toNat, by omega⟩
  generalize hp4 : (dr2 p3 (wd : Int)).2 = p4 at n4 g4
  have n14 := ((n1.trans n2).trans n3).trans n4
  refine sx_cut (fun c => ∃ lf, c = [.own l (penD p2), .val (.int (wd : Int)), .val (.int (most : Int)), .val (.int (value : Int)), .no, .own lf [], .val (.int (many : Int)), .val (.int way), .no, .no, .no, .no]) (sx_par3 5 6 7 (R1 := fun it c => it = .n [] ∧ c = [.own l (penD p), .val (.int (wd : Int)), .val (.int (most : Int)), .val (.int (value : Int)), .no, .no, .no, .no, .no, .no, .no, .no]) (R2 := fun i1 it c => i1 = .n [] ∧ it = .v (.int (many : Int)) ∧ c = [.own l (penD p1), .val (.int (wd : Int)), .val (.int (most : Int)), .val (.int (value : Int)), .no, .no, .no, .no, .no, .no, .no, .no]) (R3 := fun i1 i2 it c => i1 = .n [] ∧ i2 = .v (.int (many : Int)) ∧ it = .v (.int way) ∧ c = [.own l (penD p2), .val (.int (wd : Int)), .val (.int (most : Int)), .val (.int (value : Int)), .no, .no, .no, .no, .no, .no, .no, .no]) ?_ ?_ ?_ ?_ (fun h => ps_par3 (i := 5) (j := 6) (l := 7) rfl sc_law_lines.nd rfl rfl rfl (by decide) (by decide) (by decide) rfl rfl rfl h (by rfl))) fun c hc => ?_
  · exact eo_n (evn_lst evv_nil rfl)
  · rintro i1 c ⟨rfl, rfl⟩
    exact EvO.mono (eo_v (ev_fn1 0 F_draw hr (by decide) (evp_cons (i := 0) rfl rfl (.inr (.inl rfl)) (evv_cons (ev_b b_add (ev_v 2 rfl) ev_int) evv_nil)) rfl ⟨p, _, rfl, rfl, by omega, by omega, hg.le (by decide), rfl, rfl⟩ (by rfl))) fun it c ⟨e1, e2⟩ => ⟨rfl, by rw [e1, hmany], by rw [e2, hp1]; rfl⟩
  · rintro i1 i2 c ⟨rfl, rfl, rfl⟩
    exact EvO.mono (eo_v (ev_fn1 0 F_draw hr (by decide) (evp_cons (i := 0) rfl rfl (.inr (.inl rfl)) (evv_cons ev_int evv_nil)) rfl ⟨p1, 5, rfl, rfl, by decide, by decide, g1.le (by decide), rfl, rfl⟩ (by rfl))) fun it c ⟨e1, e2⟩ => ⟨rfl, rfl, by rw [e1, hway], by rw [e2, hp2]; rfl⟩
  · rintro i1 i2 i3 c q1 q2 q3 ⟨rfl, rfl, rfl, rfl⟩
    exact ⟨q1, rfl⟩
  obtain ⟨lf, rfl⟩ := hc
  refine sx_cut (fun c => c = ncs l lf p4 [] wd most value many way one other .no .no) (sx_parVV 8 9 (ev_is (ev_fn1 0 F_draw hr (by decide) (evp_cons (i := 0) rfl rfl (.inr (.inl rfl)) (evv_cons (ev_v 1 rfl) evv_nil)) rfl ⟨p2, (wd : Int), rfl, rfl, by omega, by omega, g2.le (by decide), rfl, rfl⟩ (by rfl)) (by rw [hone])) (ev_is (ev_fn1 0 F_draw hr (by decide) (evp_cons (i := 0) rfl rfl (.inr (.inl rfl)) (evv_cons (ev_v 1 rfl) evv_nil)) rfl ⟨_, (wd : Int), rfl, rfl, by omega, by omega, by rw [hp3]; exact g3.le (by decide), rfl, rfl⟩ (by rfl)) (by rw [hp3, hother])) (by rw [hp3, hp4]; rfl) (fun h => ps_par (i := 8) (j := 9) rfl sc_law_lines.nd rfl rfl (by decide) rfl rfl h (by rfl))) fun c hc => ?_
  subst hc
  refine sx_cons (sx_for (its := rng many) (ei_range (n := many) (evv_cons (ev_v 6 rfl) evv_nil) rfl T.range (by omega)) (fun i c => ∃ p' rows c4 c10, c = ncs l lf p' rows wd most value many way one other c4 c10 ∧ rows.length = i ∧ (∀ x ∈ rows, okC wd (value : Int) x) ∧ Nx2 (8 * (i : Int)) p4 p') ⟨p4, [], .no, .no, rfl, rfl, by simp, (Nx2.refl _).le (by decide)⟩ (fun i d c hi hI => ?_) (fun c hI => ?_) rfl)
  · obtain ⟨p5, rows, c4, c10, rfl, hlen, hrows, nx5⟩ := hI
    obtain ⟨hin, rfl⟩ := Fx.rng_get hi
    have g5 := g4.nx nx5 (c := 10000500) (by omega)
    refine ⟨_, _, eg_name 4 sc_law_lines.nd rfl (.inl rfl) (.inl rfl), ?_⟩
    -- the drawn row
    refine sx_cons (sx_setLcR 10 (own := [("_law_column", 11)]) (RN := fun acc c => ∃ (p' : Pn) (cl : List Int), acc = cl.map D.int ∧ okC wd (value : Int) cl ∧ Nx2 (wd : Int) p5 p' ∧ c = ncs l lf p' rows wd most value many way one other (.val (.int (i : Int))) c10) (evnr_tLc (its := rng wd) (ei_range (n := wd) (evv_cons (ev_v 1 rfl) evv_nil) rfl T.range (by omega)) (fun j acc c => ∃ (p' : Pn) (cl : List Int), acc = cl.map D.int ∧ okC j (value : Int) cl ∧ Nx2 (j : Int) p5 p' ∧ c = ncs l lf p' rows wd most value many way one other (.val (.int (i : Int))) c10) ⟨p5, [], rfl, ⟨rfl, by simp⟩, Nx2.refl _, rfl⟩ (fun j d acc c hj hJ => ?_) (fun acc c hJ => by rw [rng_length] at hJ; exact hJ)) (fun ds c l10 hR => ?_) rfl sc_law_lines.nd rfl rfl (sw_true rfl rfl rfl (by decide +kernel)) (blkOk_by (N := N_law_lines) (sc := defScope s_law_lines) (by decide +kernel)))
    · obtain ⟨p6, cl, rfl, hcl, nx6, rfl⟩ := hJ
      obtain ⟨hjn, rfl⟩ := Fx.rng_get hj
      have g6 := g5.nx nx6 (c := 10001000) (by omega)
      have d6 := dr2_lo p6 (m := (value : Int) + 1) (by omega)
      have hl := hcl.1
      refine ⟨_, _, true, _, by decide, fun _ _ _ _ _ => eg_name 11 sc_law_lines.nd rfl (.inl rfl) (.inr rfl), fun _ _ _ _ _ => ets_nil, fun _ => ⟨_, fun _ _ _ _ _ => evr_ev (R := fun y c => y = _ ∧ c = _) (ev_fn1 0 F_draw hr (by decide) (evp_cons (i := 0) rfl rfl (.inr (.inl rfl)) (evv_cons (ev_b b_add (ev_v 3 rfl) ev_int) evv_nil)) rfl ⟨p6, (value : Int) + 1, rfl, rfl, by omega, by omega, g6.le (by decide), rfl, rfl⟩ (by rfl)) ⟨rfl, rfl⟩, fun y c5 hy => ?_⟩, fun z => by cases z⟩
      obtain ⟨rfl, rfl⟩ := hy
      refine ⟨by rw [List.length_map]; omega, _, cl ++ [(dr2 p6 ((value : Int) + 1)).1], by rw [List.map_append]; rfl, ⟨by rw [List.length_append, hl]; rfl, fun v hv => ?_⟩, (nx6.trans (dr2_nx p6 _)).le (by omega), rfl⟩
      rcases List.mem_append.mp hv with hv | hv
      · exact hcl.2 v hv
      · rw [List.mem_singleton.mp hv]; omega
    obtain ⟨p6, rv, rfl, hrv, nx6, rfl⟩ := hR
    have g6 := g5.nx nx6 (c := 10001000) (by omega)
    -- what holds of the row from here on
    let K : List Cell → Prop := fun c => ∃ (p' : Pn) (la : Addr) (rv : List Int), c = ncs l lf p' rows wd most value many way one other (.val (.int (i : Int))) (.own la (rv.map .int)) ∧ okC wd (value : Int) rv ∧ Nx2 7 p5 p'
    have get : ∀ (rv : List Int), okC wd (value : Int) rv → ∀ j : Nat, j < wd → ixN (rv.map D.int).length (j : Int) = some j ∧ (rv.map D.int)[j]? = some (.int (rv.getD j 0)) ∧ 0 ≤ rv.getD j 0 ∧ rv.getD j 0 ≤ (value : Int) := fun rv h j hj => by
      have hl : j < rv.length := by rw [h.1]; exact hj
      have e : rv.getD j 0 = rv[j] := by rw [List.getD_eq_getElem?_getD, List.getElem?_eq_getElem hl]; rfl
      refine ⟨ixN_nat (by rw [List.length_map]; exact hl), by rw [List.getElem?_map, List.getElem?_eq_getElem hl, e]; rfl, ?_⟩
      rw [e]
      exact h.2 _ (List.getElem_mem _)
    have K0 : K (ncs l lf p6 rows wd most value many way one other (.val (.int (i : Int))) (.own l10 (rv.map .int))) := ⟨p6, l10, rv, rfl, hrv, nx6.le (by omega)⟩
    refine sx_cut K (sx_if (et_c c_eq (ev_v 7 rfl) ev_int) (fun hb => ?_) (fun hb => sx_nil K0)) fun c hc => ?_
    · obtain ⟨q1, q2, q3⟩ := get rv hrv other (by omega)
      obtain ⟨o1, _⟩ := get rv hrv one (by omega)
      refine sx_one (sx_setIx 10 (m := one) (ev_iO 10 (i_lst (m := other) q1 q2) rfl (ev_v 9 rfl) rfl rfl rfl (.inl rfl)) (ev_v 8 rfl) rfl rfl o1 ?_ rfl (.inl rfl))
      exact ⟨p6, l10, rv.set one (rv.getD other 0), by rw [List.map_set]; rfl, hrv.set _ q3, nx6.le (by omega)⟩
    obtain ⟨p7, la, rv1, rfl, hrv1, nx7⟩ := hc
    refine sx_cut K (sx_if (et_c c_eq (ev_v 7 rfl) ev_int) (fun hb => ?_) (fun hb => sx_nil ⟨p7, la, rv1, rfl, hrv1, nx7⟩)) fun c hc => ?_
    · obtain ⟨q1, q2, q3⟩ := get rv1 hrv1 other (by omega)
      obtain ⟨o1, _⟩ := get rv1 hrv1 one (by omega)
      refine sx_one (sx_setIx 10 (m := one) (ev_b (b_mod (by omega)) (ev_b (b_mul (mul_l (by omega) (by omega))) (ev_iO 10 (i_lst (m := other) q1 q2) rfl (ev_v 9 rfl) rfl rfl rfl (.inl rfl)) (ev_iO 10 (i_lst (m := other) q1 q2) rfl (ev_v 9 rfl) rfl rfl rfl (.inl rfl))) (ev_b b_add (ev_v 3 rfl) ev_int)) (ev_v 8 rfl) rfl rfl o1 ?_ rfl (.inl rfl))
      refine ⟨p7, la, rv1.set one (rv1.getD other 0 * rv1.getD other 0 % ((value : Int) + 1)), by rw [List.map_set]; rfl, hrv1.set _ ⟨Int.emod_nonneg _ (by omega), ?_⟩, nx7⟩
      have := Int.emod_lt_of_pos (rv1.getD other 0 * rv1.getD other 0) (show 0 < (value : Int) + 1 by omega)
      omega
    obtain ⟨p8, lb, rv2, rfl, hrv2, nx8⟩ := hc
    have g8 := g5.nx nx8 (c := 10001001) (by omega)
    refine sx_cut (fun c => ∃ (p' : Pn) (la : Addr) (rv : List Int), c = ncs l lf p' rows wd most value many way one other (.val (.int (i : Int))) (.own la (rv.map .int)) ∧ okC wd (value : Int) rv ∧ Nx2 8 p5 p') ?_ fun c hc => ?_
    · by_cases hw2 : way = 2
      · subst hw2
        cases hrs : rows.isEmpty with
        | true =>
          have hr0 : rows = [] := List.isEmpty_iff.mp hrs
          refine sx_if (k := false) (et_w (ew_andT (et_is (et_c c_eq (ev_v 7 rfl) ev_int) rfl) (ew_andF (et_is (et_cO1 5 (c_neD hu64 (fine_encWs rows) (fine_lst (by simp))) rfl (EvN.ev (evn_lst evv_nil rfl)) rfl rfl (.inl rfl)) (by rw [hr0]; rfl))))) (fun hb => by cases hb) (fun _ => sx_nil ⟨p8, lb, rv2, rfl, hrv2, nx8.le (by decide)⟩)
        | false =>
          have hne : rows ≠ [] := fun e => by rw [e] at hrs; cases hrs
          have hlp : 0 < rows.length := List.length_pos_iff.mpr hne
          refine sx_if (et_w (ew_andT (et_is (et_c c_eq (ev_v 7 rfl) ev_int) rfl) (ew_andT (et_is (et_cO1 5 (c_neD hu64 (fine_encWs rows) (fine_lst (by simp))) rfl (EvN.ev (evn_lst evv_nil rfl)) rfl rfl (.inl rfl)) ?_) (ew_and1 (et_c c_eq (ev_fn1 0 F_draw hr (by decide) (evp_cons (i := 0) rfl rfl (.inr (.inl rfl)) (evv_cons ev_int evv_nil)) rfl ⟨p8, 3, rfl, rfl, by decide, by decide, g8.le (by decide), rfl, rfl⟩ (by rfl)) ev_int))))) (fun hb => ?_) (fun _ => sx_nil ⟨_, lb, rv2, rfl, hrv2, (nx8.trans (dr2_nx p8 3)).le (by decide)⟩)
          · rw [eqD_nil, List.isEmpty_map, hrs]; rfl
          · have hlast : rows[rows.length - 1]? = some (rows.getLast hne) := by rw [List.getLast_eq_getElem, List.getElem?_eq_getElem]
            refine sx_one (sx_setN 10 (evn_list (xs := (rows.getLast hne).map .int) (ev_ixO 5 (m := rows.length - 1) (z := encW (rows.getLast hne)) rfl (ev_neg ev_int) rfl ?_ ?_ rfl (.inl rfl)) (.inr rfl) T.list rfl) (fun l2 => ?_) sc_law_lines.nd rfl (.inl rfl) (.inl rfl))
            · rw [List.length_map]
              unfold ixN
              rw [if_neg (by decide), if_pos (by omega)]
              congr 1
              omega
            · rw [List.getElem?_map, hlast]; rfl
            · exact ⟨_, l2, rows.getLast hne, rfl, hrows _ (List.getLast_mem hne), (nx8.trans (dr2_nx p8 3)).le (by decide)⟩
      · refine sx_if (k := false) (et_w (ew_andF (et_is (et_c c_eq (ev_v 7 rfl) ev_int) (decide_eq_false hw2)))) (fun hb => by cases hb) (fun _ => sx_nil ⟨p8, lb, rv2, rfl, hrv2, nx8.le (by decide)⟩)
    obtain ⟨p9, lc, rv3, rfl, hrv3, nx9⟩ := hc
    refine sx_cut (fun c => ∃ (rv : List Int) (lc : Addr), c = ncs l lf p9 rows wd most value many way one other (.val (.int (i : Int))) (.own lc (rv.map .int)) ∧ okC wd (value : Int) rv) (sx_if (et_c c_eq (ev_v 7 rfl) ev_int) (fun hb => ?_) (fun hb => sx_nil ⟨rv3, lc, rfl, hrv3⟩)) fun c hc => ?_
    · obtain ⟨o1, _⟩ := get rv3 hrv3 one (by omega)
      refine sx_one (sx_setIx 10 (m := one) (ev_b (b_mod (by omega)) (ev_v 4 rfl) (ev_b b_add (ev_v 3 rfl) ev_int)) (ev_v 8 rfl) rfl rfl o1 ?_ rfl (.inl rfl))
      refine ⟨rv3.set one ((i : Int) % ((value : Int) + 1)), lc, by rw [List.map_set]; rfl, hrv3.set _ ⟨Int.emod_nonneg _ (by omega), ?_⟩⟩
      have := Int.emod_lt_of_pos (i : Int) (show 0 < (value : Int) + 1 by omega)
      omega
    obtain ⟨rv4, ld, rfl, hrv4⟩ := hc
    refine sx_frz 10 (l := ld) (ds := rv4.map .int) rfl ?_
    refine sx_one (sx_appendV (ds := rows.map encW) 5 (encW rv4) rfl (ev_tupleL (ev_v 10 rfl) T.tuple rfl) (by rw [List.length_map]; omega) ?_ rfl (.inl rfl) (pe_bm PySem.F.plainAttrs_list PySem.F.slot_list_append PySem.F.type_list_append mt_append))
    refine ⟨p9, rows ++ [rv4], .val (.int (i : Int)), .val (.lst (rv4.map .int)), ?_, by rw [List.length_append, hlen]; rfl, fun x hx => ?_, (nx5.trans nx9).le (by omega)⟩
    · unfold ncs
      rw [List.map_append]
      rfl
    · rcases List.mem_append.mp hx with hx | hx
      · exact hrows x hx
      · rw [List.mem_singleton.mp hx]; exact hrv4
  · obtain ⟨p5, rows, c4, c10, rfl, hlen, hrows, nx5⟩ := hI
    rw [rng_length] at hlen nx5
    refine sx_frz 5 (l := lf) (ds := rows.map encW) rfl ?_
    exact sx_one (sx_ret (ev_v 5 rfl) ⟨_, ⟨p, p5, wd, most, value, rows, rfl, rfl, rfl, rfl, by omega, hrows, (n14.trans nx5).le (by omega)⟩, rfl⟩)
end
end Pr
namespace Pr
open PySem L2 Fx Mt
abbrev s_law_text : Stmt := top 42
abbrev N_law_text : List Str := ["_law_lines_here", "_law_row", "_law_part"]
def C_lt : List D → Out → Prop := fun ds o => ∃ (w : Nat) (rows : List (List Int)), ds = [.lst (rows.map encW)] ∧ w ≤ 6 ∧ Rws (w : Int) rows ∧ o = .val (.str (rwsT rows))
section
variable {P : Program} {w : World} {G : Gx} {mg : Str → Option Value} {base : Heap}
theorem sc_law_text : FnScope N_law_text ["_law_lines_here"] (defScope s_law_text) := ⟨rfl, rfl, rfl, by decide +kernel, rfl, by decide +kernel, by decide +kernel⟩
theorem ok_law_text {f : Addr} {fd : FuncData} (F : L2.Fun G.K "_law_text" "_law_text" s_law_text f fd) (hb : Binds G.K fd ["_law_lines_here"] []) (T : Tx mg) : FnR P w G.K mg base CX0 1 f (sp0 G C_lt) := by
  refine fn0 F sc_law_text hb (fun ds o ⟨w, rs, e, _⟩ => by rw [e]; rfl) (by decide) fun cdv A outer s H E hr ds o hC => ?_
  obtain ⟨wd, rows, rfl, h6, hok, rfl⟩ := hC
  have hl := hok.few
  have hw : (wd : Int) ≤ 6 := by omega
  have hs := rows_sum hok hw
  have e1 : (" " : Str).length = 1 := by decide +kernel
  have e2 : ("\n" : Str).length = 1 := by decide +kernel
  have e3 : ("" : Str).length = 0 := by decide +kernel
  refine sx_one (sx_ret (ev_join (ys := (rows.map rwS).map fun s => s ++ ("\n" : Str)) ev_str (ev_is (EvN.ev (evn_lc (own := [("_law_row", 1)]) (evn_pure rows encW (fun _ => true) (fun x => .str (rwS x ++ "\n")) (ei_list (ev_v 0 rfl)) (by omega) fun x hx => ⟨_, _, by decide, fun _ _ _ _ _ => eg_name 1 sc_law_text.nd rfl (.inl rfl) (.inr rfl), fun _ _ _ _ _ => ets_nil, fun _ _ _ _ _ _ => ev_b (b_addS ?_) (ev_join (ys := x.map nS) ev_str (ev_is (EvN.ev (evn_lc (own := [("_law_part", 2)]) (evn_pure x D.int (fun _ => true) (fun v => .str (nS v)) (ei_tup (ev_v 1 rfl)) (by have := (hok.row x hx).len; omega) fun v hv => ⟨_, _, by decide, fun _ _ _ _ _ => eg_name 2 sc_law_text.nd rfl (.inl rfl) (.inr rfl), fun _ _ _ _ _ => ets_nil, fun _ _ _ _ _ _ => ev_strI (ev_v 2 rfl) (nS_log ((hok.row x hx).val v hv)) T.str rfl, rfl⟩) rfl sc_law_text.nd (blkOk_by (N := N_law_text) (sc := relT (lcT (argT (atT s_law_text 0))) (defScope s_law_text)) (by decide +kernel)))) ?_) ?_) ev_str, rfl⟩) rfl sc_law_text.nd (blkOk_by (N := N_law_text) (sc := defScope s_law_text) (by decide +kernel)))) ?_) ?_) rfl)
  · show (rwS x).length + _ ≤ _
    have := row_len (hok.row x hx) hw
    omega
  · rw [List.filter_eq_self.mpr (by simp), List.map_map]
    rfl
  · have h1 := row_sum (hok.row x hx) hw
    have h2 := (hok.row x hx).len
    rw [e1, List.length_map]
    omega
  · rw [List.filter_eq_self.mpr (by simp), List.map_map, List.map_map]
    rfl
  · rw [e3, List.length_map, List.length_map]
    omega
end
end Pr

namespace Pr
open PySem L2 Fx Mt
abbrev s_tlen : Stmt := inClass (top 31) 8
def C_tlen : List D → Out → Prop := fun ds o => ∃ (w : Int) (rows : List (List Int)), ds = [encT w rows] ∧ o = .val (.int (rows.length : Nat))
section
variable {P : Program} {w : World} {G : Gx} {mg : Str → Option Value} {base : Heap}
theorem sc_tlen : FnScope ["self"] ["self"] (defScope s_tlen) := ⟨rfl, rfl, rfl, by decide +kernel, rfl, by decide +kernel, by decide +kernel⟩
theorem ok_tlen {f : Addr} {fd : FuncData} (F : L2.Fun G.K "__len__" "Table.__len__" s_tlen f fd) (hb : Binds G.K fd ["self"] []) (T : Tx mg) (KT : TC G mg) : FnR P w G.K mg base CX0 1 f (sp0 G C_tlen) := by
  refine fn0 F sc_tlen hb (fun ds o ⟨w, rs, e, _⟩ => by rw [e]; rfl) (by decide) fun cdv A outer s H E hr ds o hC => ?_
  obtain ⟨wd, rows, rfl, rfl⟩ := hC
  exact sx_one (sx_ret (ev_is (ev_lenT (ev_ptup (ev_fld (c := 1) (m := 1) (ev_v 0 rfl) (by rw [KT.fld]; decide +kernel) rfl KT.cl KT.n2)) T.len rfl) (by rw [List.length_map])) rfl)
end
end Pr

namespace Pr
open PySem L2 Fx Mt Mu
abbrev s_law_number : Stmt := top 43
abbrev N_law_number : List Str := ["_law_word", "_law_sign"]
def canN (x : Str) : Int := if canW x = true then numW x else -1
def C_lnumber : List D → Out → Prop := fun ds o => ∃ x : Str, ds = [.str x] ∧ x.length ≤ 1000000 ∧ o = .val (.int (canN x))
theorem canN_ge {x : Str} : canN x = -1 ↔ canW x = false := by
  unfold canN
  cases h : canW x with
  | true =>
    have h2 := h
    unfold canW at h2
    rw [Bool.and_eq_true] at h2
    have := (numW_val h2.1).1.1
    constructor
    · intro z
      rw [if_pos rfl] at z
      omega
    · intro z; cases z
  | false => simp
def dueE (w : Int) (x : Str) : D := match dueB w x with
  | some rows => .lst (rows.map encW)
  | none => .non
def C_due2 : List D → Out → Prop := fun ds o => (∃ (w : Nat) (d : D), ds = [.int (w : Int), d] ∧ Kv d ∧ isK "str" d = false ∧ o = .val .non) ∨ ∃ (w : Nat) (x : Str), ds = [.int (w : Int), .str x] ∧ 1 ≤ w ∧ w ≤ 6 ∧ x.length ≤ 90000 ∧ o = .val (dueE (w : Int) x)
abbrev s_law_due : Stmt := top 44
abbrev N_law_due : List Str := ["_law_width", "_law_text_here", "_law_found", "_law_line", "_law_row", "_law_word"]
section
variable {P : Program} {w : World} {G : Gx} {mg : Str → Option Value} {base : Heap}
theorem sc_law_number : FnScope N_law_number ["_law_word"] (defScope s_law_number) := ⟨rfl, rfl, rfl, by decide +kernel, rfl, by decide +kernel, by decide +kernel⟩
theorem ok_law_number {f : Addr} {fd : FuncData} (F : L2.Fun G.K "_law_number" "_law_number" s_law_number f fd) (hb : Binds G.K fd ["_law_word"] []) (T : Tx mg) : FnR P w G.K mg base CX0 1 f (sp0 G C_lnumber) := by
  refine fn0 F sc_law_number hb (fun ds o ⟨v, e, _⟩ => by rw [e]; rfl) (by decide) fun cdv A outer s H E hr ds o hC => ?_
  obtain ⟨x, rfl, hx, rfl⟩ := hC
  have hal : ((x.cps.toList.map fun c => decide (c ∈ TL.tl ("0123456789" : Str))).all id) = (TL.tl x).all fun c => decide (c ∈ TL.tl ("0123456789" : Str)) := by
    rw [List.all_map]
    rfl
  have hdig : ∀ z : Bool, (!(decide ((1 : Int) ≤ (x.length : Int)) && decide ((x.length : Int) ≤ 4)) || (!((x.cps.toList.map fun c => decide (c ∈ TL.tl ("0123456789" : Str))).all id) || z)) = (!digW x || z) := fun z => by
    rw [hal]
    unfold digW
    have e1 : decide ((1 : Int) ≤ (x.length : Int)) = decide (1 ≤ x.length) := decide_eq_decide.mpr (by omega)
    have e2 : decide ((x.length : Int) ≤ 4) = decide (x.length ≤ 4) := decide_eq_decide.mpr (by omega)
    rw [e1, e2]
    cases decide (1 ≤ x.length) <;> cases decide (x.length ≤ 4) <;> cases (TL.tl x).all fun c => decide (c ∈ TL.tl ("0123456789" : Str)) <;> rfl
  refine sx_cons (sx_if (k := !canW x) (et_is (et_w (ew_or (et_not (et_cc c_le c_le ev_int (ev_lenS (ev_v 0 rfl) (by omega) T.len rfl) ev_int pt_chain)) fun hk1 => (ew_or (k2 := !decide (nS (numW x) = x)) (et_not (et_val (ev_all (bs := x.cps.toList.map fun c => decide (c ∈ TL.tl ("0123456789" : Str))) (ev_is (EvN.ev (evn_lc (own := [("_law_sign", 1)]) (evn_pure x.cps.toList (fun c => D.str (sgn c)) (fun _ => true) (fun c => .bl (decide (c ∈ TL.tl ("0123456789" : Str)))) (ei_str (ev_v 0 rfl)) (by rw [Array.length_toList]; exact Nat.lt_of_le_of_lt hx (by decide)) fun c hc => ⟨_, _, by decide, fun _ _ _ _ _ => (eg_name 1 sc_law_number.nd rfl (.inl rfl) (.inr rfl)), fun _ _ _ _ _ => ets_nil, fun _ _ _ _ _ _ => ev_c c_sgn (ev_v 1 rfl) ev_str, rfl⟩) rfl sc_law_number.nd (blkOk_by (N := N_law_number) (sc := defScope s_law_number) (by decide +kernel)))) ?_) rfl T.all rfl))) fun hk2 => ?_))) ?_) (fun hb => ?_) (fun hb => sx_nil ?_))
  · rw [List.filter_eq_self.mpr (by simp), List.map_map]
    rfl
  · have hd : digW x = true := by
      have := hdig false
      rw [hk1, hk2] at this
      simpa using this
    obtain ⟨hv, hi⟩ := numW_val hd
    obtain ⟨_, h4, _⟩ := digW_spec hd
    exact ew_or1 (et_c c_neS (ev_strI (ev_intS (ev_v 0 rfl) hi (by rw [TL.len_tl]; omega) T.int rfl) (nS_log hv) T.str rfl) (ev_v 0 rfl))
  · rw [hdig]
    unfold canW
    cases digW x <;> cases decide (nS (numW x) = x) <;> rfl
  · have hd : canW x = false := by simpa using hb
    refine sx_one (sx_ret (ev_neg ev_int) ?_)
    show _ = D.int (canN x)
    rw [canN_ge.mpr hd]
  · have hd : canW x = true := by simpa using hb
    have hd2 := hd
    unfold canW at hd2
    rw [Bool.and_eq_true] at hd2
    obtain ⟨_, h4, _⟩ := digW_spec hd2.1
    refine sx_one (sx_ret (ev_intS (ev_v 0 rfl) (numW_val hd2.1).2 (by rw [TL.len_tl]; omega) T.int rfl) ?_)
    show _ = D.int (canN x)
    unfold canN
    rw [if_pos hd]
theorem sc_law_due : FnScope N_law_due ["_law_width", "_law_text_here"] (defScope s_law_due) := ⟨rfl, rfl, rfl, by decide +kernel, rfl, by decide +kernel, by decide +kernel⟩
theorem ok_law_due {f : Addr} {fd : FuncData} (F : L2.Fun G.K "_law_due" "_law_due" s_law_due f fd) (hb : Binds G.K fd ["_law_width", "_law_text_here"] []) (T : Tx mg) (HO : Ocs G) (F_number : Fn0 G P w mg base 1 "_law_number" C_lnumber) : FnR P w G.K mg base CX0 2 f (sp0 G C_due2) := by
  refine fn0 F sc_law_due hb (fun ds o h => by rcases h with ⟨w, d, e, _⟩ | ⟨w, x, e, _⟩ <;> rw [e] <;> rfl) (by decide) fun cdv A outer s H E hr ds o hC => ?_
  have hu65 : (cx0 P w G.K mg base N_law_due "_law_due" s_law_due f cdv A outer s H E).A.units + 65 < cLine := by have := hr.un; omega
  rcases hC with ⟨wd, d, rfl, hd, hs, rfl⟩ | ⟨wd, x, rfl, h1, h6, hx, rfl⟩
  · exact sx_cons (sx_if (et_is (et_w (ew_orT (et_is (et_not (et_val (ev_isK (T' := "str") (ev_v 1 rfl) hd HO (by decide) T.isinstance rfl T.str rfl (by decide +kernel)))) (by rw [hs]; rfl)))) rfl) (fun hb => sx_one (sx_ret ev_non rfl)) (fun hb => by cases hb))
  refine sx_cons (sx_if (et_w (ew_orF (et_is (et_not (et_val (ev_isK (T' := "str") (ev_v 1 rfl) (kv_str x) HO (by decide) T.isinstance rfl T.str rfl (by decide +kernel)))) (by rw [isK_strT]; rfl)) (ew_or1 (et_w (ew_and (et_c c_neS (ev_v 1 rfl) ev_str) fun _ => (ew_and1 (et_is (et_c c_neS (ev_sliceS (po_some pe_rd) po_none (ev_v 1 rfl) (by omega) (es_some (ev_neg ev_int)) es_none) ev_str) (congrArg (fun z => !z) cut_ends))))))))  (fun hb => ?_) (fun hb => sx_nil ?_))
  · have hn : (decide (x = "") || Txt.endswith x "\n") = false := by
      rw [Bool.and_eq_true] at hb
      rw [Bool.or_eq_false_iff]
      exact ⟨by simpa using hb.1, by simpa using hb.2⟩
    refine sx_one (sx_ret ev_non ?_)
    show _ = dueE (wd : Int) x
    unfold dueE dueB
    rw [if_neg fun z => by rw [hn] at z; exact Bool.noConfusion z.1]
  have h0 : (decide (x = "") || Txt.endswith x "\n") = true := by
    cases e1 : decide (x = "") with
    | true => rfl
    | false =>
      rw [e1] at hb
      simpa using hb
  have hll := linesR_len x
  have hlx : ∀ l ∈ linesR x, l.length ≤ 90000 := fun l hl => Nat.le_trans (split_len1 tl_nl nl256 (List.dropLast_subset _ hl)) hx
  have hwl : ∀ l ∈ linesR x, (Txt.split l " ").length ≤ 90001 := fun l hl => by
    have h3 := tot_len (Txt.split l " ")
    rw [tot_split tl_sp sp256] at h3
    have := hlx l hl
    omega
  have hcut : D.lst (((List.map D.str (Txt.split x "\n")).drop (HT.sIx (List.map D.str (Txt.split x "\n")).length 0 none)).take (HT.sIx (List.map D.str (Txt.split x "\n")).length (List.map D.str (Txt.split x "\n")).length (some (-1)) - HT.sIx (List.map D.str (Txt.split x "\n")).length 0 none)) = .lst ((linesR x).map D.str) := by
    rw [split_nl h0, List.map_append]
    show D.lst ((((linesR x).map D.str ++ [D.str ("" : Str)]).drop _).take _) = _
    exact congrArg D.lst (cut_lastT _ _)
  refine sx_cons (sx_setN 2 (evn_lst evv_nil rfl) (fun lf => ?_) sc_law_due.nd rfl (.inl rfl) (.inl rfl))
  refine sx_cons (sx_for (its := (linesR x).map D.str) (ei_list (ev_is (EvN.ev (evn_slice po_none (po_some pe_rd) (EvN.ev (evn_split (ev_v 1 rfl) ev_str (by decide +kernel) (by omega))) es_none (es_some (ev_neg ev_int)))) hcut)) (fun i c => ∃ (c3 c4 : Cell), c = [.val (.int (wd : Int)), .val (.str x), .own lf ((((linesR x).take i).map rowW).map encW), c3, c4, .no] ∧ ∀ l ∈ (linesR x).take i, ((Txt.split l " ").length : Int) = (wd : Int) ∧ ∀ y ∈ Txt.split l " ", canW y = true) ⟨.no, .no, rfl, by simp⟩ (fun i d c hi hI => ?_) (fun c hI => ?_) rfl)
  · obtain ⟨c3, c4, rfl, hI⟩ := hI
    rw [List.getElem?_map] at hi
    cases e : (linesR x)[i]? with
    | none => rw [e] at hi; cases hi
    | some l =>
      rw [e] at hi
      cases hi
      have hil := (List.getElem?_eq_some_iff.mp e).1
      have hlm := List.mem_of_getElem? e
      have hl9 := hlx l hlm
      have hw9 := hwl l hlm
      have ht : (linesR x).take (i + 1) = (linesR x).take i ++ [l] := by rw [List.take_add_one, e]; rfl
      refine ⟨_, _, eg_name 3 sc_law_due.nd rfl (.inl rfl) (.inl rfl), ?_⟩
      refine sx_cut (fun c => ∃ l4, c = [.val (.int (wd : Int)), .val (.str x), .own lf ((((linesR x).take i).map rowW).map encW), .val (.str l), .own l4 ((Txt.split l " ").map fun y => D.int (canN y)), .no]) (sx_setLc 4 (own := [("_law_word", 5)]) (evn_pure (Txt.split l " ") D.str (fun _ => true) (fun y => D.int (canN y)) (ei_list (EvN.ev (evn_split (ev_v 3 rfl) ev_str (by decide +kernel) (by omega)))) (by omega) fun y hy => ⟨_, _, by decide, fun _ _ _ _ _ => (eg_name 5 sc_law_due.nd rfl (.inl rfl) (.inr rfl)), fun _ _ _ _ _ => ets_nil, fun _ _ _ _ _ _ => ev_fn0 F_number hr (by decide) (evv_cons (ev_v 5 rfl) evv_nil) ⟨y, rfl, Nat.le_trans (split_len1 tl_sp sp256 hy) (by omega), rfl⟩ (by rfl), rfl⟩) (fun l4 => ⟨l4, by rw [List.filter_eq_self.mpr (by simp)]; rfl⟩) rfl sc_law_due.nd rfl rfl (sw_true rfl rfl rfl (by decide +kernel)) (blkOk_by (N := N_law_due) (sc := defScope s_law_due) (by decide +kernel))) fun c hc => ?_
      obtain ⟨l4, rfl⟩ := hc
      refine sx_frz 4 (l := l4) (ds := (Txt.split l " ").map fun y => D.int (canN y)) rfl ?_
      have fI : fine (.lst ((Txt.split l " ").map fun y => D.int (canN y))) := fine_lst fun d hd => by
        obtain ⟨y, _, rfl⟩ := List.mem_map.mp hd
        exact ⟨rfl, Nat.zero_le _⟩
      have hany : (((Txt.split l " ").map fun y => D.int (canN y)).any fun z => eqD z (.int (-1))) = !((Txt.split l " ").all canW) := by
        rw [List.any_map, Bool.eq_iff_iff, List.any_eq_true]
        constructor
        · rintro ⟨y, hy, h⟩
          have h2 : eqD (.int (canN y)) (.int (-1)) = true := h
          rw [eqD_int] at h2
          have h3 := canN_ge.mp (of_decide_eq_true h2)
          rw [Bool.not_eq_true']
          exact Bool.eq_false_iff.mpr fun z => by rw [List.all_eq_true.mp z y hy] at h3; cases h3
        · intro h
          rw [Bool.not_eq_true'] at h
          obtain ⟨y, hy, h2⟩ := List.all_eq_false.mp h
          refine ⟨y, hy, ?_⟩
          show eqD (.int (canN y)) (.int (-1)) = true
          rw [eqD_int]
          exact decide_eq_true (canN_ge.mpr (by simpa using h2))
      refine sx_cons (sx_if (et_w (ew_or (et_c c_ne (ev_lenL (ev_v 4 rfl) T.len rfl) (ev_v 0 rfl)) fun _ => ew_or1 (et_is (et_c (c_inL (by exact hu65) ⟨rfl, Nat.zero_le _⟩ fI) (ev_neg ev_int) (ev_v 4 rfl)) hany))) (fun hb => ?_) (fun hb => sx_nil ?_))
      · rw [List.length_map] at hb
        refine sx_one (sx_ret ev_non ?_)
        show _ = dueE (wd : Int) x
        unfold dueE dueB
        rw [if_neg fun z => by
          obtain ⟨z1, z2⟩ := z.2.2 l hlm
          rcases Bool.or_eq_true_iff.mp hb with q | q
          · simp at q
            exact q (by exact_mod_cast z1)
          · rw [List.all_eq_true.mpr z2] at q
            cases q]
      · rw [List.length_map] at hb
        rw [Bool.or_eq_false_iff] at hb
        have hlw : ((Txt.split l " ").length : Int) = (wd : Int) := by simpa using hb.1
        have hcw : ∀ y ∈ Txt.split l " ", canW y = true := List.all_eq_true.mp (by simpa using hb.2)
        have erow : ((Txt.split l " ").map fun y => D.int (canN y)) = (rowW l).map D.int := by
          unfold rowW
          rw [List.map_map]
          refine List.map_congr_left fun y hy => ?_
          show D.int (canN y) = D.int (numW y)
          unfold canN
          rw [if_pos (hcw y hy)]
        refine sx_one (sx_appendV (ds := (((linesR x).take i).map rowW).map encW) 2 (encW (rowW l)) rfl (ev_is (ev_tupleL (ev_v 4 rfl) T.tuple rfl) (congrArg D.tup erow)) ?_ ?_ rfl (.inl rfl) (pe_bm PySem.F.plainAttrs_list PySem.F.slot_list_append PySem.F.type_list_append mt_append))
        · rw [List.length_map, List.length_map, List.length_take]
          omega
        · refine ⟨.val (.str l), .val (.lst ((Txt.split l " ").map fun y => D.int (canN y))), ?_, fun l' hl' => ?_⟩
          · rw [ht, List.map_append, List.map_append]
            rfl
          · rw [ht] at hl'
            rcases List.mem_append.mp hl' with q | q
            · exact hI l' q
            · rw [List.mem_singleton.mp q]; exact ⟨hlw, hcw⟩
  · obtain ⟨c3, c4, rfl, hI⟩ := hI
    rw [List.length_map, List.take_length] at hI
    rw [List.length_map, List.take_length]
    refine sx_frz 2 (l := lf) (ds := ((linesR x).map rowW).map encW) rfl ?_
    refine sx_one (sx_ret (d := dueE (wd : Int) x) (ev_if (et_c c_le (ev_lenL (ev_v 2 rfl) T.len rfl) ev_int) (fun hb => ev_is (ev_v 2 rfl) ?_) (fun hb => ev_is ev_non ?_)) rfl)
    · have hl4 : (linesR x).length ≤ 400 := by
        have := of_decide_eq_true hb
        rw [List.length_map, List.length_map] at this
        omega
      unfold dueE dueB
      rw [if_pos ⟨h0, hl4, hI⟩]
    · have hl4 : ¬ (linesR x).length ≤ 400 := by
        have := of_decide_eq_false hb
        rw [List.length_map, List.length_map] at this
        omega
      unfold dueE dueB
      rw [if_neg fun z => hl4 z.2.1]
end
end Pr

namespace Pr
open PySem L2 Fx Mt Mu
abbrev s_law_is_right : Stmt := top 45
abbrev N_law_is_right : List Str := ["_law_width", "_law_text_here", "_law_due_here", "_law_made"]
def Txd (d : D) : Prop := (Kv d ∧ isK "str" d = false) ∨ ∃ x : Str, d = .str x ∧ x.length ≤ 90000 ∧ okS x
def C_right2 : List D → Out → Prop := fun ds o => ∃ (w : Nat) (d : D), ds = [.int (w : Int), d] ∧ 1 ≤ w ∧ w ≤ 6 ∧ Txd d ∧ o = .val (.bl true)
theorem sh_val {v : Int} (h : isVal v) : Sh 0 4 (.int v) := ⟨rfl, decide_eq_true (nS_log h), rfl, Nat.le_refl _, (len_val h).2⟩
theorem sh_rowB {w : Int} (hw : w ≤ 6) {x : List Int} (h : Rw w x) : Sh 1 39 (encW x) := by
  have hl := h.len
  exact (sh_tup (k := 0) (n := 4) fun d hd => by
    obtain ⟨v, hv, rfl⟩ := List.mem_map.mp hd
    exact sh_val (h.val v hv)).le (by decide) (by rw [List.length_map]; omega)
theorem sh_rowsB {w : Int} (hw : w ≤ 6) {rows : List (List Int)} (h : Rws w rows) : Sh 2 20000 (.tup (rows.map encW)) := by
  have hl := h.few
  exact (sh_tup (k := 1) (n := 39) fun d hd => by
    obtain ⟨x, hx, rfl⟩ := List.mem_map.mp hd
    exact sh_rowB hw (h.row x hx)).le (by decide) (by rw [List.length_map]; omega)
theorem sh_right2 {w : Nat} (h1 : 1 ≤ w) (h6 : w ≤ 6) {rows : List (List Int)} (h : Rws (w : Int) rows) {x : Str} (okx : okS x) (hx : x.length ≤ 90000) : Shows (.lst [.int (w : Int), .tup (rows.map encW), .str x, .int (rows.length : Nat)]) := by
  have hl := h.few
  refine (sh_lst (k := 2) (n := 1000000) fun d hd => ?_).shows (by decide) (by show 2 + 4 * 1000002 ≤ 16777216; decide)
  simp only [List.mem_cons, List.not_mem_nil, or_false] at hd
  rcases hd with rfl | rfl | rfl | rfl
  · exact (sh_val ⟨by omega, by omega⟩).le (by decide) (by decide)
  · exact (sh_rowsB (by omega) h).le (by decide) (by decide)
  · exact (sh_str okx).le (by decide) (by omega)
  · exact (sh_val ⟨by omega, by omega⟩).le (by decide) (by decide)
section
variable {P : Program} {w : World} {G : Gx} {mg : Str → Option Value} {base : Heap}
theorem sc_law_is_right : FnScope N_law_is_right ["_law_width", "_law_text_here"] (defScope s_law_is_right) := ⟨rfl, rfl, rfl, by decide +kernel, rfl, by decide +kernel, by decide +kernel⟩
theorem ok_law_is_right {f : Addr} {fd : FuncData} (F : L2.Fun G.K "_law_is_right" "_law_is_right" s_law_is_right f fd) (hb : Binds G.K fd ["_law_width", "_law_text_here"] []) (T : Tx mg) (KT : TC G mg) (X18 : XC G mg 18 "NoText") (M1 : Exm G 18 18 true) (F_due : Fn0 G P w mg base 2 "_law_due" C_due2) (F_equal : Fn0G G P w mg base 1 "_law_is_equal" C_equal) (rd : PkClsX G P w mg base 1 8 "read" CX_tread) (rl : PkLen G P w mg base 1 1 C_tlen) (M : PkMeth0 G P w mg base 1 1 "text" C_ttext) (pr : PkProp G P w mg base 1 1 "rows" "kept") (pw : PkProp G P w mg base 1 1 "width" "columns") : FnG P w G.K mg base 9 f (sp0 G C_right2) := by
  refine fn0G F sc_law_is_right hb (fun ds o ⟨w, d, e, _⟩ => by rw [e]; rfl) (by decide) fun cdv A outer s H E hr gd ds o hC => ?_
  obtain ⟨wd, d, rfl, h1, h6, hd, rfl⟩ := hC
  have none_ : ∀ (r : Out ⊕ Nat), r = .inr 18 → CX_tread [.cls 1, .int (wd : Int), d] r → Sx G (rdSs (cx0 P w G.K mg base N_law_is_right "_law_is_right" s_law_is_right f cdv A outer s H E) ((defBody s_law_is_right).drop 1)) [.val (.int (wd : Int)), .val d, .val .non, .no] (post0 (.val (.bl true))) := by
    intro r hr' hC
    subst hr'
    refine sx_cons (sx_tryX (S' := fun c cs => c = 18 ∧ cs = [.val (.int (wd : Int)), .val d, .val .non, .no]) (.cons ⟨rfl, by decide, .inl X18.nm⟩ .nil) (fun W' pn xe tk pass => xs_one (xs_set 3 (R := fun d c => False) (ex_cmeth (c := 1) (r := .inr 18) rd tk hr (by decide) rfl KT.nm (evv_cons (ev_v 0 rfl) (evv_cons (ev_v 1 rfl) evv_nil)) hC (by exact ⟨rfl, rfl⟩)) (fun d c z => False.elim z) sc_law_is_right.nd rfl (.inl rfl) (.inl rfl))) (fun c cs' z => ?_))
    obtain ⟨rfl, rfl⟩ := z
    exact .inl ⟨M1, fun a pn => sx_one (sx_ret (ev_c c_isN (ev_v 2 rfl) ev_non) rfl)⟩
  rcases hd with ⟨hk, hs⟩ | ⟨x, rfl, hx, okx⟩
  · refine sx_cons (sx_set 2 (ev_fn0 F_due hr (by decide) (evv_cons (ev_v 0 rfl) (evv_cons (ev_v 1 rfl) evv_nil)) (.inl ⟨wd, d, rfl, hk, hs, rfl⟩) rfl) ?_ sc_law_is_right.nd rfl (.inl rfl) (.inl rfl))
    exact none_ _ rfl (.inr (.inl ⟨(wd : Int), d, rfl, by omega, by omega, hk, hs, rfl⟩))
  · refine sx_cons (sx_set 2 (ev_fn0 F_due hr (by decide) (evv_cons (ev_v 0 rfl) (evv_cons (ev_v 1 rfl) evv_nil)) (.inr ⟨wd, x, rfl, h1, h6, hx, rfl⟩) rfl) ?_ sc_law_is_right.nd rfl (.inl rfl) (.inl rfl))
    have hC : CX_tread [.cls 1, .int (wd : Int), .str x] (treadO (wd : Int) x) := .inr (.inr ⟨(wd : Int), x, rfl, by omega, by omega, hx, rfl⟩)
    cases hdue : dueB (wd : Int) x with
    | none =>
      have e1 : dueE (wd : Int) x = .non := by unfold dueE; rw [hdue]
      have e2 : treadO (wd : Int) x = .inr 18 := by unfold treadO; rw [hdue]
      rw [e1]
      exact none_ _ e2 hC
    | some rows =>
      have e1 : dueE (wd : Int) x = .lst (rows.map encW) := by unfold dueE; rw [hdue]
      have e2 : treadO (wd : Int) x = .inl (.val (encT (wd : Int) rows)) := by unfold treadO; rw [hdue]
      rw [e1]
      rw [e2] at hC
      obtain ⟨hok, htx, _⟩ := dueB_ok hdue
      have hl := hok.few
      refine sx_cut (fun c => c = [.val (.int (wd : Int)), .val (.str x), .val (.lst (rows.map encW)), .val (encT (wd : Int) rows)]) (sx_tryX (S' := fun _ _ => False) (.cons ⟨rfl, by decide, .inl X18.nm⟩ .nil) (fun W' pn xe tk pass => xs_one (xs_set 3 (R := fun d c => d = encT (wd : Int) rows ∧ c = [.val (.int (wd : Int)), .val (.str x), .val (.lst (rows.map encW)), .no]) (ex_cmeth (c := 1) (r := .inl (.val (encT (wd : Int) rows))) rd tk hr (by decide) rfl KT.nm (evv_cons (ev_v 0 rfl) (evv_cons (ev_v 1 rfl) evv_nil)) hC (by exact ⟨rfl, rfl⟩)) (fun d c ⟨z1, z2⟩ => by subst z1 z2; rfl) sc_law_is_right.nd rfl (.inl rfl) (.inl rfl))) (fun c cs' z => False.elim z)) fun c hc => ?_
      subst hc
      refine sx_cons (sx_if (et_is (et_w (ew_or (et_c c_isN (ev_v 2 rfl) ev_non) fun _ => ew_or1 (et_not (et_val (ev_isC (c := 1) (ev_v 3 rfl) KT.ty KT.kit T.isinstance rfl KT.nm rfl))))) (k1 := false) rfl) (fun hb => by cases hb) (fun _ => sx_nil ?_))
      refine sx_one (sx_ret (ev_fn0G F_equal gd hr (by decide) (evv_cons (EvN.ev (evn_lst (evv_cons (ev_propP (c := 1) (m := 0) pw (ev_v 3 rfl) (by rw [KT.fld]; decide +kernel) rfl KT.cl hr (by decide)) (evv_cons (ev_ptup (ev_propP (c := 1) (m := 1) pr (ev_v 3 rfl) (by rw [KT.fld]; decide +kernel) rfl KT.cl hr (by decide))) (evv_cons (ev_is (ev_meth0P M (ev_v 3 rfl) KT.cl (by rw [KT.fld]; decide +kernel) hr (by decide) ⟨(wd : Int), rows, rfl, hok, by omega, rfl⟩) (congrArg D.str htx)) (evv_cons (ev_lenI (c := 1) (i := (rows.length : Nat)) rl (ev_v 3 rfl) hr (by decide) ⟨(wd : Int), rows, rfl, rfl⟩ (by omega) (by omega) T.len rfl) evv_nil)))) rfl)) (evv_cons (ev_is (EvN.ev (evn_lst (evv_cons (ev_v 0 rfl) (evv_cons (ev_tupleL (ev_v 2 rfl) T.tuple rfl) (evv_cons (ev_v 1 rfl) (evv_cons (ev_lenL (ev_v 2 rfl) T.len rfl) evv_nil)))) rfl)) (y := .lst [.int (wd : Int), .tup (rows.map encW), .str x, .int (rows.length : Nat)]) (by rw [List.length_map])) evv_nil)) ⟨_, rfl, sh_right2 h1 h6 hok okx hx, rfl⟩ rfl) rfl)
end
end Pr
namespace Pr
open PySem L2 Fx Mt Mu
abbrev s_law_is_refused : Stmt := top 47
def C_refused2 : List D → Out → Prop := fun ds o => ∃ d t : D, ds = [d, t] ∧ Kv d ∧ betw d 1 6 = false ∧ o = .val (.bl true)
section
variable {P : Program} {w : World} {G : Gx} {mg : Str → Option Value} {base : Heap}
theorem sc_law_is_refused : FnScope ["_law_width", "_law_text_here"] ["_law_width", "_law_text_here"] (defScope s_law_is_refused) := ⟨rfl, rfl, rfl, by decide +kernel, rfl, by decide +kernel, by decide +kernel⟩
theorem ok_law_is_refused {f : Addr} {fd : FuncData} (F : L2.Fun G.K "_law_is_refused" "_law_is_refused" s_law_is_refused f fd) (hb : Binds G.K fd ["_law_width", "_law_text_here"] []) (KT : TC G mg) (X11 : XC G mg 11 "NoWidth") (M1 : Exm G 11 11 true) (rd : PkClsX G P w mg base 1 8 "read" CX_tread) : FnR P w G.K mg base CX0 9 f (sp0 G C_refused2) := by
  refine fn0 F sc_law_is_refused hb (fun ds o ⟨w, d, e, _⟩ => by rw [e]; rfl) (by decide) fun cdv A outer s H E hr ds o hC => ?_
  obtain ⟨d, t, rfl, hd, hbt, rfl⟩ := hC
  refine sx_cons (sx_tryX (S' := fun c _ => c = 11) (.cons ⟨rfl, by decide, .inl X11.nm⟩ .nil) (fun W' pn xe tk pass => xs_one (xs_expr (R := fun d c => False) (ex_cmeth (c := 1) (r := .inr 11) rd tk hr (by decide) rfl KT.nm (evv_cons (ev_v 0 rfl) (evv_cons (ev_v 1 rfl) evv_nil)) (.inl ⟨d, t, rfl, hd, hbt, rfl⟩) (by exact rfl)) (fun d c z => False.elim z))) (fun c cs' z => ?_))
  subst z
  exact .inl ⟨M1, fun a pn => sx_one (sx_ret ev_bl rfl)⟩
end
end Pr

namespace Pr
open PySem L2 Fx Mt Mu
theorem okS_nl : okS "\n" := by unfold okS; decide +kernel
theorem okS_sp : okS " " := by unfold okS; decide +kernel
end Pr
namespace Pr
open PySem L2 Fx Mt Mu
theorem cut_hi5 (xs : List D) (k : Nat) : (xs.drop (HT.sIx xs.length 0 none)).take (HT.sIx xs.length xs.length (some (k : Int)) - HT.sIx xs.length 0 none) = xs.take k := by
  rw [HT.sIx_nat]
  show List.take (min k xs.length - 0) (List.drop 0 xs) = _
  rw [Nat.sub_zero, List.drop_zero]
  by_cases h : k ≤ xs.length
  · rw [Nat.min_eq_left h]
  · rw [Nat.min_eq_right (by omega), List.take_length, List.take_of_length_le (by omega)]
theorem cut_lo5 (xs : List D) (k : Nat) : (xs.drop (HT.sIx xs.length 0 (some (k : Int)))).take (HT.sIx xs.length xs.length none - HT.sIx xs.length 0 (some (k : Int))) = xs.drop k := by
  rw [HT.sIx_nat]
  show List.take (xs.length - min k xs.length) (List.drop (min k xs.length) xs) = _
  rw [List.take_of_length_le (by rw [List.length_drop]; exact Nat.le_refl _)]
  by_cases h : k ≤ xs.length
  · rw [Nat.min_eq_left h]
  · rw [Nat.min_eq_right (by omega), List.drop_length, List.drop_of_length_le (by omega)]
section
variable {X : Cx} {G : Gx} {e : Expr} {pos p2 : Pos} {cs cs1 cs2 : List Cell} {ys : List Str} {k : Nat} {lo hi : Expr}
/-- xs[:k], xs[k:] of texts -/
theorem ev_takeS (h : Ev G (rdE X e) cs (.lst (ys.map D.str)) cs1) (hk : Ev G (rdE X hi) cs1 (.int (k : Int)) cs2) : Ev G (rdE X (.Subscript e (.Slice none (some hi) none p2) pos)) cs (.lst ((ys.take k).map D.str)) cs2 :=
  ev_is (EvN.ev (evn_slice po_none (po_some pe_rd) h es_none (es_some hk))) (by rw [cut_hi5, List.map_take])
theorem ev_dropS (h : Ev G (rdE X e) cs (.lst (ys.map D.str)) cs1) (hk : Ev G (rdE X lo) cs1 (.int (k : Int)) cs2) : Ev G (rdE X (.Subscript e (.Slice (some lo) none none p2) pos)) cs (.lst ((ys.drop k).map D.str)) cs2 :=
  ev_is (EvN.ev (evn_slice (po_some pe_rd) po_none h (es_some hk) es_none)) (by rw [cut_lo5, List.map_drop])
end
/-- a text within bounds -/
def Gt (n : Nat) (y : Str) : Prop := okS y ∧ y.length ≤ n
theorem Gt.le {n m : Nat} {y : Str} (h : Gt n y) (hm : n ≤ m) : Gt m y := ⟨h.1, Nat.le_trans h.2 hm⟩
theorem gt_app {n m k : Nat} {x y : Str} (h : Gt n x) (h2 : Gt m y) (hk : n + m ≤ k) : Gt k (x ++ y) := ⟨okS_app h.1 h2.1, by have := h.2; have := h2.2; rw [len_app']; omega⟩
theorem gt_cut {n : Nat} {x : Str} (h : Gt n x) (lo hi : Option Int) : Gt n (cutS x lo hi) := ⟨okS_cut h.1 lo hi, Nat.le_trans (cutS_length x lo hi) h.2⟩
theorem gt_join {n : Nat} {y : Str} {s : Nat} (ey : TL.tl y = [s]) (hy : okS y) {ls : List Str} (h : ∀ z ∈ ls, okS z) (hn : tot ls ≤ n) : Gt n (Str.join y ls) := ⟨okS_join hy h, Nat.le_trans (join_len1 ey ls) hn⟩
def B_bent : List D → List D → Prop := fun qs ds => ∃ (p : Pn) (x : Str), qs = penD p ∧ ds = [.str x] ∧ Gt 2000 x ∧ Gd2 10000000 p
def R_bent : List D → List D → D → List D → Prop := fun qs ds d qs' => ∃ (p p' : Pn) (y : Str), qs = penD p ∧ qs' = penD p' ∧ d = .str y ∧ Gt 20000 y ∧ Nx2 10 p p'
theorem sum_tot (y : Str) (hy : y.length = 1) (ls : List Str) (h : tot ls ≤ 1000000) : (ls.map (·.length)).sum + ls.length * y.length ≤ 16777216 := by
  have := tot_sum ls
  rw [hy]
  omega
end Pr

namespace Pr
open PySem L2 Fx Mt Mu
abbrev s_law_bent : Stmt := top 46
abbrev N_law_bent : List Str := ["_law_source_here", "_law_text_here", "_law_lines_here", "_law_spot", "_law_words", "_law_place", "_law_word", "_law_line", "_law_found", "_law_at", "_law_sign"]
def nts (l : Addr) (p : Pn) (x : Str) (c2 c3 c4 c5 c6 c7 c8 c9 c10 : Cell) : List Cell := [.own l (penD p), .val (.str x), c2, c3, c4, c5, c6, c7, c8, c9, c10]
theorem gt_signs {S : List D} (hS : sgns "0123456789 AB-+_," = S) {d : D} (h : d ∈ S ++ [.str "\n", .str "\n"]) : ∃ y : Str, d = .str y ∧ Gt 1 y := by
  subst hS
  have e : sgns "0123456789 AB-+_," ++ [.str "\n", .str "\n"] = (("0123456789 AB-+_," : Str).cps.toList.map sgn ++ (["\n", "\n"] : List Str)).map D.str := by
    rw [List.map_append, List.map_map]
    rfl
  rw [e] at h
  obtain ⟨y, hy, rfl⟩ := List.mem_map.mp h
  refine ⟨y, rfl, ?_⟩
  have hall : ∀ y ∈ (("0123456789 AB-+_," : Str).cps.toList.map sgn ++ (["\n", "\n"] : List Str)), (y.cps.toList.all fun c => decide (c < 1114112)) = true ∧ y.length ≤ 1 := by decide +kernel
  obtain ⟨h1, h2⟩ := hall y hy
  exact ⟨fun c hc => of_decide_eq_true (List.all_eq_true.mp h1 c hc), h2⟩
theorem gt_words {w0 y : Str} (h0 : Gt 2000 w0) (h : y ∈ (["0", "9999", "10000", "07", "-1", "", "A", w0 ++ "0", "0" ++ w0] : List Str)) : Gt 2007 y := by
  have e : (["0", "9999", "10000", "07", "-1", "", "A", w0 ++ "0", "0" ++ w0] : List Str) = (["0", "9999", "10000", "07", "-1", "", "A"] : List Str) ++ [w0 ++ "0", "0" ++ w0] := rfl
  rw [e] at h
  have g0 : Gt 1 "0" := ⟨by unfold okS; decide +kernel, by decide +kernel⟩
  rcases List.mem_append.mp h with h | h
  · have hall : ∀ y ∈ (["0", "9999", "10000", "07", "-1", "", "A"] : List Str), (y.cps.toList.all fun c => decide (c < 1114112)) = true ∧ y.length ≤ 7 := by decide +kernel
    obtain ⟨h1, h2⟩ := hall y h
    exact ⟨fun c hc => of_decide_eq_true (List.all_eq_true.mp h1 c hc), by omega⟩
  · simp only [List.mem_cons, List.not_mem_nil, or_false] at h
    rcases h with rfl | rfl
    · exact gt_app h0 g0 (by decide)
    · exact gt_app g0 h0 (by decide)
section
variable {P : Program} {w : World} {G : Gx} {mg : Str → Option Value} {base : Heap}
theorem sc_law_bent : FnScope N_law_bent ["_law_source_here", "_law_text_here"] (defScope s_law_bent) := ⟨rfl, rfl, rfl, by decide +kernel, rfl, by decide +kernel, by decide +kernel⟩
theorem ok_law_bent {f : Addr} {fd : FuncData} (F : L2.Fun G.K "_law_bent" "_law_bent" s_law_bent f fd) (hb : Binds G.K fd ["_law_source_here", "_law_text_here"] []) (T : Tx mg) (F_draw : Fn1 G P w mg base 1 "_law_draw" C_draw) (F_choose : Fn1R G P w mg base 2 "_law_choose" B_choose R_choose) : FnR P w G.K mg base CX0 3 f (sp1R G B_bent R_bent) := by
  refine fn1R F sc_law_bent hb (fun qs ds ⟨p, x, _, e, _⟩ => by rw [e]; rfl) (by decide) fun cdv A outer s H E hr l qs ds hC => ?_
  obtain ⟨p, x, rfl, rfl, gx, hg⟩ := hC
  obtain ⟨okx, hx⟩ := id gx
  have l1 : (" " : Str).length = 1 := by decide +kernel
  have l2 : ("\n" : Str).length = 1 := by decide +kernel
  have l3 : ("0123456789 AB-+_," : Str).length = 17 := by decide +kernel
  obtain ⟨S, hS⟩ : ∃ S, sgns "0123456789 AB-+_," = S := ⟨_, rfl⟩
  have hSl : S.length = 17 := by rw [← hS]; decide +kernel
  have d1 := dr2_lo p (m := (x.length : Int) + 1) (by omega)
  have n1 := dr2_nx p ((x.length : Int) + 1)
  have g1 := hg.nx n1 (c := 10000001) (by omega)
  obtain ⟨a, ha⟩ : ∃ k : Nat, (dr2 p ((x.length : Int) + 1)).1 = (k : Int) := ⟨(dr2 p ((x.length : Int) + 1)).1.toNat, by omega⟩
  generalize hp1 : (dr2 p ((x.length : Int) + 1)).2 = p1 at n1 g1
  refine sx_cut (fun c => ∃ (p' : Pn) (sg : Str), c = nts l p' x .no .no .no .no .no .no .no (.val (.int (a : Int))) (.val (.str sg)) ∧ Gt 1 sg ∧ Nx2 1 p1 p') (sx_par2 9 10 (R1 := fun it c => it = .v (.int (a : Int)) ∧ c = nts l p1 x .no .no .no .no .no .no .no .no .no) (R2 := fun i1 it c => ∃ (p' : Pn) (sg : Str), i1 = .v (.int (a : Int)) ∧ it = .v (.str sg) ∧ c = nts l p' x .no .no .no .no .no .no .no .no .no ∧ Gt 1 sg ∧ Nx2 1 p1 p') ?_ ?_ ?_ (fun h => ps_par (i := 9) (j := 10) rfl sc_law_bent.nd rfl rfl (by decide) rfl rfl h (by rfl))) fun c hc => ?_
  · refine EvO.mono (eo_v (ev_is (ev_fn1 0 F_draw hr (by decide) (evp_cons (i := 0) rfl rfl (.inl rfl) (evv_cons (ev_b b_add (ev_lenS (ev_v 1 rfl) (by omega) T.len rfl) ev_int) evv_nil)) rfl ⟨p, (x.length : Int) + 1, rfl, rfl, by omega, by omega, hg.le (by decide), rfl, rfl⟩ (by rfl)) (congrArg D.int ha))) fun it c ⟨z1, z2⟩ => ⟨z1, ?_⟩
    rw [z2, hp1]
    rfl
  · rintro i1 c ⟨rfl, rfl⟩
    refine EvO.mono (eo_vR (evr_fn1 0 F_choose hr (by decide) (evp_cons (i := 0) rfl rfl (.inl rfl) (evv_cons (EvN.ev (evn_b (b_addL (xs := S) (ys := [.str "\n", .str "\n"]) (by rw [hSl]; decide)) (EvN.ev (evn_is (evn_listS ev_str (by rw [l3]; decide) rfl T.list rfl) hS)) (EvN.ev (evn_lst (evv_cons ev_str (evv_cons ev_str evv_nil)) rfl)))) evv_nil)) rfl ⟨_, _, rfl, rfl, g1.le (by decide), .inl ⟨_, rfl, by rw [List.length_append, hSl]; decide, by rw [List.length_append, hSl]; decide⟩⟩ (by rfl))) fun it c hy => ?_
    obtain ⟨d, rfl, qs', ⟨q1, q2, e1, e2, nq, hm2, _⟩, rfl⟩ := hy
    cases penD_inj e1
    subst e2
    obtain ⟨y, rfl, gy⟩ := gt_signs hS (hm2 _ rfl)
    exact ⟨q2, y, rfl, rfl, rfl, gy, nq⟩
  · rintro i1 i2 c pa pb ⟨p2, sg, rfl, rfl, rfl, gs, nq⟩
    exact ⟨p2, sg, rfl, gs, nq⟩
  obtain ⟨p2, sg, rfl, gs, n2⟩ := hc
  have g2 := g1.nx n2 (c := 10000002) (by omega)
  have ls_ok : ∀ z ∈ Txt.split x "\n", okS z := fun z hz => okS_split tl_nl nl256 okx hz
  have ls_tot : tot (Txt.split x "\n") = x.length + 1 := tot_split tl_nl nl256
  have ls_ne : Txt.split x "\n" ≠ [] := split_ne tl_nl nl256
  refine sx_cons (sx_set 2 (EvN.ev (evn_split (ev_v 1 rfl) ev_str (by decide +kernel) (by omega))) ?_ sc_law_bent.nd rfl (.inl rfl) (.inl rfl))
  generalize hls : Txt.split x "\n" = ls at ls_ok ls_tot ls_ne
  have ls_len := tot_len ls
  have ls_pos : 0 < ls.length := List.length_pos_iff.mpr ls_ne
  have d3 := dr2_lo p2 (m := (ls.length : Int)) (by omega)
  have n3 := dr2_nx p2 (ls.length : Int)
  have g3 := g2.nx n3 (c := 10000003) (by omega)
  obtain ⟨k, hk⟩ : ∃ k : Nat, (dr2 p2 (ls.length : Int)).1 = (k : Int) := ⟨(dr2 p2 (ls.length : Int)).1.toNat, by omega⟩
  have hkl : k < ls.length := by omega
  refine sx_cons (sx_set 3 (d := .int (k : Int)) (ev_is (ev_fn1 0 F_draw hr (by decide) (evp_cons (i := 0) rfl rfl (.inl rfl) (evv_cons (ev_is (ev_lenL (ev_v 2 rfl) T.len rfl) (by rw [List.length_map])) evv_nil)) rfl ⟨p2, (ls.length : Int), rfl, rfl, by omega, by omega, g2.le (by decide), rfl, rfl⟩ (by rfl)) (congrArg D.int hk)) ?_ sc_law_bent.nd rfl (.inl rfl) (.inl rfl))
  generalize (dr2 p2 (ls.length : Int)).2 = p3 at n3 g3
  have hz0 := List.getElem_mem hkl
  have okz := ls_ok _ hz0
  have hzt := tot_mem hz0
  generalize hzz : ls[k] = z at okz hzt hz0
  have hz1 : ls[k]? = some z := by rw [List.getElem?_eq_getElem hkl, hzz]
  have ws_ok : ∀ y ∈ Txt.split z " ", okS y := fun y hy => okS_split tl_sp sp256 okz hy
  have ws_tot : tot (Txt.split z " ") = z.length + 1 := tot_split tl_sp sp256
  have ws_ne : Txt.split z " " ≠ [] := split_ne tl_sp sp256
  refine sx_cons (sx_set 4 (EvN.ev (evn_split (ev_i (i_lst (m := k) (z := .str z) (by rw [List.length_map]; exact ixN_nat hkl) (by rw [List.getElem?_map, hz1]; rfl)) (ev_v 2 rfl) (ev_v 3 rfl)) ev_str (by decide +kernel) (by omega))) ?_ sc_law_bent.nd rfl (.inl rfl) (.inl rfl))
  generalize hws : Txt.split z " " = ws at ws_ok ws_tot ws_ne
  have ws_len := tot_len ws
  have ws_pos : 0 < ws.length := List.length_pos_iff.mpr ws_ne
  have d5 := dr2_lo p3 (m := (ws.length : Int)) (by omega)
  have n5 := dr2_nx p3 (ws.length : Int)
  have g5 := g3.nx n5 (c := 10000004) (by omega)
  obtain ⟨pl, hpl⟩ : ∃ k : Nat, (dr2 p3 (ws.length : Int)).1 = (k : Int) := ⟨(dr2 p3 (ws.length : Int)).1.toNat, by omega⟩
  refine sx_cons (sx_set 5 (d := .int (pl : Int)) (ev_is (ev_fn1 0 F_draw hr (by decide) (evp_cons (i := 0) rfl rfl (.inl rfl) (evv_cons (ev_is (ev_lenL (ev_v 4 rfl) T.len rfl) (by rw [List.length_map])) evv_nil)) rfl ⟨p3, (ws.length : Int), rfl, rfl, by omega, by omega, g3.le (by decide), rfl, rfl⟩ (by rfl)) (congrArg D.int hpl)) ?_ sc_law_bent.nd rfl (.inl rfl) (.inl rfl))
  generalize (dr2 p3 (ws.length : Int)).2 = p5 at n5 g5
  have hpl2 : pl < ws.length := by omega
  have hw0m := List.getElem_mem hpl2
  have gw0 : Gt 2000 ws[pl] := ⟨ws_ok _ hw0m, by have := tot_mem hw0m; omega⟩
  generalize hw00 : ws[pl] = w0 at gw0 hw0m
  have hw1 : ws[pl]? = some w0 := by rw [List.getElem?_eq_getElem hpl2, hw00]
  have l01 : ("0" : Str).length = 1 := by decide +kernel
  have gw9 := gw0.2
  refine sx_cut (fun c => ∃ (p' : Pn) (wd : Str), c = nts l p' x (.val (.lst (ls.map D.str))) (.val (.int (k : Int))) (.val (.lst (ws.map D.str))) (.val (.int (pl : Int))) (.val (.str wd)) .no .no (.val (.int (a : Int))) (.val (.str sg)) ∧ Gt 2007 wd ∧ Nx2 1 p5 p') (sx_setR 6 (EvR.mono (evr_fn1 0 F_choose hr (by decide) (evp_cons (i := 0) rfl rfl (.inl rfl) (evv_cons (EvN.ev (evn_lst (evv_c5 ev_str ev_str ev_str ev_str ev_str (evv_cons ev_str (evv_cons ev_str (evv_cons (ev_b (b_addS (by rw [l01]; omega)) (ev_i (i_lst (m := pl) (z := .str w0) (by rw [List.length_map]; exact ixN_nat hpl2) (by rw [List.getElem?_map, hw1]; rfl)) (ev_v 4 rfl) (ev_v 5 rfl)) ev_str) (evv_cons (ev_b (b_addS (by rw [l01]; omega)) ev_str (ev_i (i_lst (m := pl) (z := .str w0) (by rw [List.length_map]; exact ixN_nat hpl2) (by rw [List.getElem?_map, hw1]; rfl)) (ev_v 4 rfl) (ev_v 5 rfl))) evv_nil))))) rfl)) evv_nil)) rfl ⟨_, _, rfl, rfl, g5.le (by decide), .inl ⟨_, rfl, by show 0 < 9; decide, by show 9 ≤ 1000; decide⟩⟩ (by rfl)) fun d c hy => hy) (fun d c hy => ?_) sc_law_bent.nd rfl (.inl rfl) (.inl rfl)) fun c hc => ?_
  · obtain ⟨qs', ⟨q1, q2, e1, e2, nq, hm2, _⟩, rfl⟩ := hy
    cases penD_inj e1
    subst e2
    have hm3 : d ∈ (["0", "9999", "10000", "07", "-1", "", "A", w0 ++ "0", "0" ++ w0] : List Str).map D.str := hm2 _ rfl
    obtain ⟨y, hy, rfl⟩ := List.mem_map.mp hm3
    exact ⟨q2, y, rfl, gt_words gw0 hy, nq⟩
  obtain ⟨p6, wd, rfl, gwd, n6⟩ := hc
  have g6 := g5.nx n6 (c := 10000005) (by omega)
  have hin : ∀ {m : Nat}, ((m : Int) + 1) = ((m + 1 : Nat) : Int) := fun {m} => by omega
  -- the line
  have t1 := tot_take ws pl
  have t2 := tot_drop ws (pl + 1)
  have hlt : tot (ws.take pl ++ [wd] ++ ws.drop (pl + 1)) ≤ 8000 := by
    rw [tot_app, tot_app, tot_cons, tot_nil]
    have := gwd.2
    omega
  have hlo : ∀ y ∈ ws.take pl ++ [wd] ++ ws.drop (pl + 1), okS y := fun y hy => by
    rcases List.mem_append.mp hy with hy | hy
    · rcases List.mem_append.mp hy with hy | hy
      · exact ws_ok y (List.mem_of_mem_take hy)
      · rw [List.mem_singleton.mp hy]; exact gwd.1
    · exact ws_ok y (List.mem_of_mem_drop hy)
  have mp3 : ∀ A B C : List Str, (A.map D.str ++ B.map D.str) ++ C.map D.str = (A ++ B ++ C).map D.str := fun A B C => by rw [List.map_append, List.map_append]
  have mp2 : ∀ A C : List Str, A.map D.str ++ C.map D.str = (A ++ C).map D.str := fun A C => (List.map_append (f := D.str)).symm
  have hlen : ∀ L : List Str, tot L ≤ 100000 → (L.map D.str).length ≤ 100000 := fun L h => by rw [List.length_map]; exact Nat.le_trans (tot_len L) h
  refine sx_cons (sx_set 7 (ev_join ev_str (ev_is (EvN.ev (evn_b (b_addL (xs := ((ws.take pl).map D.str ++ [.str wd])) (ys := (ws.drop (pl + 1)).map D.str) ?_) (EvN.ev (evn_b (b_addL (xs := (ws.take pl).map D.str) (ys := [.str wd]) ?_) (ev_takeS (ev_v 4 rfl) (ev_v 5 rfl)) (EvN.ev (evn_lst (evv_cons (ev_v 6 rfl) evv_nil) rfl)))) (ev_dropS (ev_v 4 rfl) (ev_is (ev_b b_add (ev_v 5 rfl) ev_int) (congrArg D.int hin))))) (congrArg D.lst (mp3 (ws.take pl) [wd] (ws.drop (pl + 1))))) (sum_tot _ l1 _ (Nat.le_trans hlt (by decide)))) ?_ sc_law_bent.nd rfl (.inl rfl) (.inl rfl))
  · simp only [List.length_append, List.length_map, List.length_take, List.length_drop, List.length_cons, List.length_nil]
    omega
  · simp only [List.length_map, List.length_take, List.length_cons, List.length_nil]
    omega
  have gln : Gt 8000 (Str.join " " (ws.take pl ++ [wd] ++ ws.drop (pl + 1))) := gt_join tl_sp okS_sp hlo hlt
  generalize Str.join " " (ws.take pl ++ [wd] ++ ws.drop (pl + 1)) = line at gln
  -- the texts
  have c1 := gt_cut gx none (some (a : Int))
  have c2 := gt_cut gx (some (a : Int)) none
  have c3 := gt_cut gx (some ((a + 1 : Nat) : Int)) none
  have c4 := gt_cut gx none (some (-1))
  have o1 := c1.2
  have o2 := c2.2
  have o3 := c3.2
  have o4 := gs.2
  refine sx_cons (sx_setN 8 (evn_lst (evv_cons (ev_b (b_addS ?_) (ev_b (b_addS ?_) (ev_sliceS po_none (po_some pe_rd) (ev_v 1 rfl) (by omega) es_none (es_some (ev_v 9 rfl))) (ev_v 10 rfl)) (ev_sliceS (po_some pe_rd) po_none (ev_v 1 rfl) (by omega) (es_some (ev_v 9 rfl)) es_none)) (evv_cons (ev_b (b_addS ?_) (ev_b (b_addS ?_) (ev_sliceS po_none (po_some pe_rd) (ev_v 1 rfl) (by omega) es_none (es_some (ev_v 9 rfl))) (ev_v 10 rfl)) (ev_sliceS (po_some pe_rd) po_none (ev_v 1 rfl) (by omega) (es_some (ev_is (ev_b b_add (ev_v 9 rfl) ev_int) (congrArg D.int hin))) es_none)) (evv_cons (ev_b (b_addS ?_) (ev_sliceS po_none (po_some pe_rd) (ev_v 1 rfl) (by omega) es_none (es_some (ev_v 9 rfl))) (ev_sliceS (po_some pe_rd) po_none (ev_v 1 rfl) (by omega) (es_some (ev_is (ev_b b_add (ev_v 9 rfl) ev_int) (congrArg D.int hin))) es_none)) (evv_cons (ev_sliceS po_none (po_some pe_rd) (ev_v 1 rfl) (by omega) es_none (es_some (ev_neg ev_int))) evv_nil)))) rfl) (fun lf => ?_) sc_law_bent.nd rfl (.inl rfl) (.inl rfl))
  · rw [len_app']; omega
  · omega
  · rw [len_app']; omega
  · omega
  · omega
  have gf4 : ∀ y ∈ ([cutS x none (some (a : Int)) ++ sg ++ cutS x (some (a : Int)) none, cutS x none (some (a : Int)) ++ sg ++ cutS x (some ((a + 1 : Nat) : Int)) none, cutS x none (some (a : Int)) ++ cutS x (some ((a + 1 : Nat) : Int)) none, cutS x none (some (-1))] : List Str), Gt 20000 y := fun y hy => by
    simp only [List.mem_cons, List.not_mem_nil, or_false] at hy
    rcases hy with rfl | rfl | rfl | rfl
    · exact gt_app (gt_app c1 gs (Nat.le_refl _)) c2 (by decide)
    · exact gt_app (gt_app c1 gs (Nat.le_refl _)) c3 (by decide)
    · exact gt_app c1 c3 (by decide)
    · exact c4.le (by decide)
  show Sx G _ (nts l p6 x (.val (.lst (ls.map D.str))) (.val (.int (k : Int))) (.val (.lst (ws.map D.str))) (.val (.int (pl : Int))) (.val (.str wd)) (.val (.str line)) (.own lf (([cutS x none (some (a : Int)) ++ sg ++ cutS x (some (a : Int)) none, cutS x none (some (a : Int)) ++ sg ++ cutS x (some ((a + 1 : Nat) : Int)) none, cutS x none (some (a : Int)) ++ cutS x (some ((a + 1 : Nat) : Int)) none, cutS x none (some (-1))] : List Str).map D.str)) (.val (.int (a : Int))) (.val (.str sg))) _
  generalize hfs : ([cutS x none (some (a : Int)) ++ sg ++ cutS x (some (a : Int)) none, cutS x none (some (a : Int)) ++ sg ++ cutS x (some ((a + 1 : Nat) : Int)) none, cutS x none (some (a : Int)) ++ cutS x (some ((a + 1 : Nat) : Int)) none, cutS x none (some (-1))] : List Str) = fs at gf4 ⊢
  have hfl : fs.length = 4 := by rw [← hfs]; rfl
  have t3 := tot_take ls k
  have t4 := tot_drop ls (k + 1)
  have t5 := tot_drop ls (k - 1)
  have oln := gln.2
  have ap : ∀ (ys : List Str) (y : Str), ys.map D.str ++ [.str y] = (ys ++ [y]).map D.str := fun ys y => by rw [List.map_append]; rfl
  have ltk : (ls.take k).length ≤ 2001 := by rw [List.length_take]; omega
  have ldk : (ls.drop (k + 1)).length ≤ 2001 := by rw [List.length_drop]; omega
  have ldm : (ls.drop (k - 1)).length ≤ 2001 := by rw [List.length_drop]; omega
  have hmx : (if (k : Int) - 1 > 0 then (k : Int) - 1 else 0) = ((k - 1 : Nat) : Int) := by split <;> omega
  have q1 : tot (ls.take k ++ [line] ++ ls.drop (k + 1)) ≤ 15000 := by rw [tot_app, tot_app, tot_cons, tot_nil]; omega
  have q2 : tot (ls.take k ++ ls.drop (k - 1)) ≤ 15000 := by rw [tot_app]; omega
  have q3 : tot (ls.take k ++ ls.drop (k + 1)) ≤ 15000 := by rw [tot_app]; omega
  have j1 : Gt 20000 (Str.join "\n" (ls.take k ++ [line] ++ ls.drop (k + 1))) := (gt_join tl_nl okS_nl (fun y hy => by
    rcases List.mem_append.mp hy with hy | hy
    · rcases List.mem_append.mp hy with hy | hy
      · exact ls_ok y (List.mem_of_mem_take hy)
      · rw [List.mem_singleton.mp hy]; exact gln.1
    · exact ls_ok y (List.mem_of_mem_drop hy)) q1).le (by decide)
  have j2 : Gt 20000 (Str.join "\n" (ls.take k ++ ls.drop (k - 1))) := (gt_join tl_nl okS_nl (fun y hy => by
    rcases List.mem_append.mp hy with hy | hy
    · exact ls_ok y (List.mem_of_mem_take hy)
    · exact ls_ok y (List.mem_of_mem_drop hy)) q2).le (by decide)
  have j3 : Gt 20000 (Str.join "\n" (ls.take k ++ ls.drop (k + 1))) := (gt_join tl_nl okS_nl (fun y hy => by
    rcases List.mem_append.mp hy with hy | hy
    · exact ls_ok y (List.mem_of_mem_take hy)
    · exact ls_ok y (List.mem_of_mem_drop hy)) q3).le (by decide)
  refine sx_cons (sx_append (ds := fs.map D.str) 8 rfl (ev_join (ys := ls.take k ++ [line] ++ ls.drop (k + 1)) ev_str (ev_is (EvN.ev (evn_b (b_addL (xs := ((ls.take k).map D.str ++ [.str line])) (ys := (ls.drop (k + 1)).map D.str) ?_) (EvN.ev (evn_b (b_addL (xs := (ls.take k).map D.str) (ys := [.str line]) ?_) (ev_takeS (ev_v 2 rfl) (ev_v 3 rfl)) (EvN.ev (evn_lst (evv_cons (ev_v 7 rfl) evv_nil) rfl)))) (ev_dropS (ev_v 2 rfl) (ev_is (ev_b b_add (ev_v 3 rfl) ev_int) (congrArg D.int hin))))) (congrArg D.lst (mp3 (ls.take k) [line] (ls.drop (k + 1))))) (sum_tot _ l2 _ (Nat.le_trans q1 (by decide)))) rfl ?_ ?_ rfl (.inl rfl) (pe_bm PySem.F.plainAttrs_list PySem.F.slot_list_append PySem.F.type_list_append mt_append))
  · simp only [List.length_append, List.length_map, List.length_cons, List.length_nil]
    omega
  · simp only [List.length_map, List.length_cons, List.length_nil]
    omega
  · rw [List.length_map]; omega
  rw [ap]
  have gf5 : ∀ y ∈ fs ++ [Str.join "\n" (ls.take k ++ [line] ++ ls.drop (k + 1))], Gt 20000 y := fun y hy => by
    rcases List.mem_append.mp hy with hy | hy
    · exact gf4 y hy
    · rw [List.mem_singleton.mp hy]; exact j1
  have hfl5 : (fs ++ [Str.join "\n" (ls.take k ++ [line] ++ ls.drop (k + 1))]).length = 5 := by rw [List.length_append, hfl]; rfl
  generalize fs ++ [Str.join "\n" (ls.take k ++ [line] ++ ls.drop (k + 1))] = f5 at gf5 hfl5 ⊢
  refine sx_cons (sx_append (ds := f5.map D.str) 8 rfl (ev_join (ys := ls.take k ++ ls.drop (k - 1)) ev_str (ev_is (EvN.ev (evn_b (b_addL (xs := (ls.take k).map D.str) (ys := (ls.drop (k - 1)).map D.str) ?_) (ev_takeS (ev_v 2 rfl) (ev_v 3 rfl)) (ev_dropS (ev_v 2 rfl) (ev_is (ev_max2 (evv_cons ev_int (evv_cons (ev_b b_sub (ev_v 3 rfl) ev_int) evv_nil)) (by rfl) T.max (by rfl)) (congrArg D.int hmx))))) (congrArg D.lst (mp2 (ls.take k) (ls.drop (k - 1))))) (sum_tot _ l2 _ (Nat.le_trans q2 (by decide)))) rfl ?_ ?_ rfl (.inl rfl) (pe_bm PySem.F.plainAttrs_list PySem.F.slot_list_append PySem.F.type_list_append mt_append))
  · simp only [List.length_map]
    omega
  · rw [List.length_map]; omega
  rw [ap]
  have gf6 : ∀ y ∈ f5 ++ [Str.join "\n" (ls.take k ++ ls.drop (k - 1))], Gt 20000 y := fun y hy => by
    rcases List.mem_append.mp hy with hy | hy
    · exact gf5 y hy
    · rw [List.mem_singleton.mp hy]; exact j2
  have hfl6 : (f5 ++ [Str.join "\n" (ls.take k ++ ls.drop (k - 1))]).length = 6 := by rw [List.length_append, hfl5]; rfl
  generalize f5 ++ [Str.join "\n" (ls.take k ++ ls.drop (k - 1))] = f6 at gf6 hfl6 ⊢
  refine sx_cons (sx_append (ds := f6.map D.str) 8 rfl (ev_join (ys := ls.take k ++ ls.drop (k + 1)) ev_str (ev_is (EvN.ev (evn_b (b_addL (xs := (ls.take k).map D.str) (ys := (ls.drop (k + 1)).map D.str) ?_) (ev_takeS (ev_v 2 rfl) (ev_v 3 rfl)) (ev_dropS (ev_v 2 rfl) (ev_is (ev_b b_add (ev_v 3 rfl) ev_int) (congrArg D.int hin))))) (congrArg D.lst (mp2 (ls.take k) (ls.drop (k + 1))))) (sum_tot _ l2 _ (Nat.le_trans q3 (by decide)))) rfl ?_ ?_ rfl (.inl rfl) (pe_bm PySem.F.plainAttrs_list PySem.F.slot_list_append PySem.F.type_list_append mt_append))
  · simp only [List.length_map]
    omega
  · rw [List.length_map]; omega
  rw [ap]
  have gf7 : ∀ y ∈ f6 ++ [Str.join "\n" (ls.take k ++ ls.drop (k + 1))], Gt 20000 y := fun y hy => by
    rcases List.mem_append.mp hy with hy | hy
    · exact gf6 y hy
    · rw [List.mem_singleton.mp hy]; exact j3
  have hfl7 : (f6 ++ [Str.join "\n" (ls.take k ++ ls.drop (k + 1))]).length = 7 := by rw [List.length_append, hfl6]; rfl
  generalize f6 ++ [Str.join "\n" (ls.take k ++ ls.drop (k + 1))] = f7 at gf7 hfl7 ⊢
  refine sx_frz 8 (l := lf) (ds := f7.map D.str) rfl ?_
  have l0 : ("  " : Str).length = 2 := by decide +kernel
  have lr := TK.replace_len x " " "  "
  rw [l0] at lr
  have gx5 : ∀ y ∈ ([x ++ "\n", " " ++ x, Txt.replace x " " "  ", x ++ x, ""] : List Str), Gt 20000 y := fun y hy => by
    simp only [List.mem_cons, List.not_mem_nil, or_false] at hy
    rcases hy with rfl | rfl | rfl | rfl | rfl
    · exact gt_app gx (⟨okS_nl, by rw [l2]; exact Nat.le_refl 1⟩ : Gt 1 "\n") (by decide)
    · exact gt_app (⟨okS_sp, by rw [l1]; exact Nat.le_refl 1⟩ : Gt 1 " ") gx (by decide)
    · exact ⟨okS_repl okx (by unfold okS; decide +kernel), by omega⟩
    · exact gt_app gx gx (by decide)
    · exact ⟨by unfold okS; decide +kernel, by decide +kernel⟩
  refine sx_one (sx_retR (EvR.mono (evr_fn1 0 F_choose hr (by decide) (evp_cons (i := 0) rfl rfl (.inl rfl) (evv_cons (ev_is (y := .lst ((f7 ++ [x ++ "\n", " " ++ x, Txt.replace x " " "  ", x ++ x, ""]).map D.str)) (EvN.ev (evn_b (b_addL (xs := f7.map D.str) (ys := [.str (x ++ "\n"), .str (" " ++ x), .str (Txt.replace x " " "  "), .str (x ++ x), .str ""]) ?_) (ev_v 8 rfl) (EvN.ev (evn_lst (evv_tok (ev_v 1 rfl) ?_ (evvt_cons (evt_ev (ev_b (b_addS ?_) ev_str (ev_v 1 rfl))) (evvt_cons (evt_repl (ev_v 1 rfl) ?_) (evvt_ev (evv_cons (ev_b (b_addS ?_) (ev_v 1 rfl) (ev_v 1 rfl)) (evv_cons ev_str evv_nil)))))) rfl)))) (by rw [List.map_append]; rfl)) evv_nil)) rfl ⟨_, _, rfl, rfl, g6.le (by decide), .inl ⟨_, rfl, ?_, ?_⟩⟩ (by rfl)) fun d c hy => hy) fun d c hy => ?_)
  · rw [List.length_map, hfl7]; simp only [List.length_cons, List.length_nil]; decide
  · rw [l2]; omega
  · rw [l1]; omega
  · rw [l0]; omega
  · omega
  · rw [List.length_map, List.length_append, hfl7]; simp only [List.length_cons, List.length_nil]; decide
  · rw [List.length_map, List.length_append, hfl7]; simp only [List.length_cons, List.length_nil]; decide
  · obtain ⟨qs', ⟨q1', q2', e1, e2, nq, hm2, _⟩, rfl⟩ := hy
    cases penD_inj e1
    subst e2
    obtain ⟨y, hy, rfl⟩ := List.mem_map.mp (hm2 _ rfl)
    have gy : Gt 20000 y := by
      rcases List.mem_append.mp hy with hy | hy
      · exact gf7 y hy
      · exact gx5 y hy
    exact ⟨penD q2', ⟨p, q2', y, rfl, rfl, rfl, gy, ((((n1.trans n2).trans n3).trans (n5.trans n6)).trans nq).le (by decide)⟩, rfl⟩
end
end Pr

namespace Pr
open PySem L2 Fx Mt Mu
abbrev s_law : Stmt := top 48
abbrev N_law : List Str := ["_law_script", "_law_k", "_law_many", "_law_source_here", "_law_lap", "_law_width", "_law_text_here", "_law_some", "_law_odd", "_law_bad", "_law_at"]
def C_law : List D → Out → Prop := fun ds o => ∃ ns : List Int, ds = [.scr ns] ∧ o = .val (.bl true)
def ycs (ns : List Int) (i : Nat) (c2 : Cell) (l : Addr) (p : Pn) (j : Nat) (c5 c6 c7 c8 c9 : Cell) : List Cell := [.val (.scr ns), .val (.int (i : Int)), c2, .own l (penD p), .val (.int (j : Int)), c5, c6, c7, c8, c9, .no]
def GoodT (its : List D) : Prop := ∀ d ∈ its, ∃ y : Str, d = .str y ∧ Gt 20000 y
theorem txd_str {y : Str} (h : Gt 20000 y) : Txd (.str y) := .inr ⟨y, rfl, Nat.le_trans h.2 (by decide), h.1⟩
theorem isK_no (t : String) (ht : t ∈ oddT) (hn : t ≠ "str") {d : D} (hd : tyN d = some t) : isK "str" d = false := by
  have hall : ∀ t ∈ oddT, t ≠ "str" → decide (kitB t "str" = some true) = false := by decide +kernel
  unfold isK
  rw [hd]
  exact hall t ht hn
theorem txd_odd {x : Str} {n : Int} {d : D} (h : d ∈ ([.non, .int 0, .bl true, .lst [.str x], .tup [.str x], .emp, .str "0", .str "\n", .int n] : List D)) : Txd d := by
  have gs : ∀ y ∈ (["0", "\n"] : List Str), (y.cps.toList.all fun c => decide (c < 1114112)) = true ∧ y.length ≤ 20 := by decide +kernel
  have gst : ∀ y ∈ (["0", "\n"] : List Str), Txd (.str y) := fun y hy => by
    obtain ⟨h1, h2⟩ := gs y hy
    exact .inr ⟨y, rfl, Nat.le_trans h2 (by decide), fun c hc => of_decide_eq_true (List.all_eq_true.mp h1 c hc)⟩
  simp only [List.mem_cons, List.not_mem_nil, or_false] at h
  rcases h with rfl | rfl | rfl | rfl | rfl | rfl | rfl | rfl | rfl
  · exact .inl ⟨.inl ⟨_, rfl, by decide⟩, isK_no "NoneType" (by decide) (by decide) rfl⟩
  · exact .inl ⟨.inl ⟨_, rfl, by decide⟩, isK_no "int" (by decide) (by decide) rfl⟩
  · exact .inl ⟨.inl ⟨_, rfl, by decide⟩, isK_no "bool" (by decide) (by decide) rfl⟩
  · exact .inl ⟨.inl ⟨_, rfl, by decide⟩, isK_no "list" (by decide) (by decide) rfl⟩
  · exact .inl ⟨.inl ⟨_, rfl, by decide⟩, isK_no "tuple" (by decide) (by decide) rfl⟩
  · exact .inl ⟨.inl ⟨_, rfl, by decide⟩, isK_no "dict" (by decide) (by decide) rfl⟩
  · exact gst _ (by simp)
  · exact gst _ (by simp)
  · exact .inl ⟨.inl ⟨_, rfl, by decide⟩, isK_no "int" (by decide) (by decide) rfl⟩
def badL : List D := [.int 0, .int 7, .int (-1), .non, .bl true, .bl false, .str "3", .tup [.int 3], .lst [.int 3], .emp]
theorem bad_ok {d : D} (h : d ∈ badL) : Kv d ∧ betw d 1 6 = false := by
  unfold badL at h
  simp only [List.mem_cons, List.not_mem_nil, or_false] at h
  rcases h with rfl | rfl | rfl | rfl | rfl | rfl | rfl | rfl | rfl | rfl <;> exact ⟨.inl ⟨_, rfl, by decide⟩, by first | rfl | decide⟩
theorem okS_val {v : Int} (h : isVal v) : okS (nS v) := fun c hc => by
  have h1 := sign_val h hc
  rw [digits_tl] at h1
  simp at h1
  omega
theorem gt_rows {w : Int} (hw : w ≤ 6) {rows : List (List Int)} (h : Rws w rows) (hl : rows.length ≤ 50) : Gt 2000 (rwsT rows) := by
  refine ⟨?_, ?_⟩
  · unfold rwsT
    rw [linesT_join, TL.join_eq]
    refine okS_join okS_nl fun z hz => ?_
    rcases List.mem_append.mp hz with hz | hz
    · obtain ⟨x, hx, rfl⟩ := List.mem_map.mp hz
      unfold rwS
      refine okS_join okS_sp fun y hy => ?_
      obtain ⟨v, hv, rfl⟩ := List.mem_map.mp hy
      exact okS_val ((h.row x hx).val v hv)
    · rw [List.mem_singleton.mp hz]
      unfold okS
      decide +kernel
  · unfold rwsT
    have := lines_len (l := rows.map rwS) (n := 30) fun s hs => by
      obtain ⟨x, hx, rfl⟩ := List.mem_map.mp hs
      exact row_len (h.row x hx) hw
    rw [List.length_map] at this
    omega
/-- the great texts -/
def bigT (n : Nat) : Str := Str.join "" ((List.range n).map fun (i : Nat) => nS (i : Int) ++ " 7\n")
theorem okS_bigE (i : Nat) (h : i ≤ 9999) : okS (nS (i : Int) ++ " 7\n") := okS_app (okS_val ⟨by omega, by omega⟩) (by unfold okS; decide +kernel)
theorem big_len (i : Nat) (h : i ≤ 9999) : (nS (i : Int) ++ " 7\n").length ≤ 7 := by
  rw [len_app']
  have := (len_val (v := (i : Int)) ⟨by omega, by omega⟩).2
  have e : (" 7\n" : Str).length = 3 := by decide +kernel
  omega
theorem sum_le7 : ∀ (l : List Str), (∀ s ∈ l, s.length ≤ 7) → (l.map (·.length)).sum ≤ 7 * l.length
  | [], _ => by simp
  | a :: l, h => by
    have := h a (List.mem_cons_self ..)
    have := sum_le7 l fun s hs => h s (List.mem_cons_of_mem _ hs)
    simp only [List.map_cons, List.sum_cons, List.length_cons]
    omega
theorem join0_len : ∀ (l : List (List Nat)), (TL.joinL [] l).length = (l.map List.length).sum
  | [] => rfl
  | [p] => by simp [TL.joinL]
  | p :: q :: r => by
    show (p ++ ([] ++ TL.joinL [] (q :: r))).length = _
    rw [List.nil_append, List.length_append, join0_len (q :: r)]
    simp
theorem gt_big {n : Nat} (h : n ≤ 1000) : Gt 20000 (bigT n) := by
  refine ⟨?_, ?_⟩
  · unfold bigT
    refine okS_join (by unfold okS; decide +kernel) fun z hz => ?_
    obtain ⟨i, hi, rfl⟩ := List.mem_map.mp hz
    exact okS_bigE i (by have := List.mem_range.mp hi; omega)
  · unfold bigT
    rw [TL.len_tl, TL.tl_join, tl_none, join0_len, List.map_map, List.map_map]
    have := sum_le7 ((List.range n).map fun (i : Nat) => nS (i : Int) ++ " 7\n") fun s hs => by
      obtain ⟨i, hi, rfl⟩ := List.mem_map.mp hs
      exact big_len i (by have := List.mem_range.mp hi; omega)
    rw [List.length_map, List.length_range, List.map_map] at this
    have e : ((List.range n).map ((List.length ∘ TL.tl) ∘ fun (i : Nat) => nS (i : Int) ++ " 7\n")).sum = ((List.range n).map ((fun x : Str => x.length) ∘ fun (i : Nat) => nS (i : Int) ++ " 7\n")).sum := by
      congr 1
    rw [e]
    omega
section
variable {P : Program} {w : World} {G : Gx} {mg : Str → Option Value} {base : Heap}
theorem sc_law : FnScope N_law ["_law_script"] (defScope s_law) := ⟨rfl, rfl, rfl, by decide +kernel, rfl, by decide +kernel, by decide +kernel⟩
theorem ok_law {f : Addr} {fd : FuncData} (F : L2.Fun G.K "law" "law" s_law f fd) (hb : Binds G.K fd ["_law_script"] []) (T : Tx mg)
    (F_cell : Fn0 G P w mg base 1 "_law_cell" C_cell) (F_source : Fn0 G P w mg base 1 "_law_source" C_source) (F_draw : Fn1 G P w mg base 1 "_law_draw" C_draw) (F_choose : Fn1R G P w mg base 2 "_law_choose" B_choose R_choose) (F_lines : Fn1R G P w mg base 2 "_law_lines" B_lines R_lines) (F_text : Fn0 G P w mg base 1 "_law_text" C_lt) (F_bent : Fn1R G P w mg base 3 "_law_bent" B_bent R_bent) (F_right : Fn0G G P w mg base 9 "_law_is_right" C_right2) (F_refused : Fn0 G P w mg base 9 "_law_is_refused" C_refused2) :
    FnG P w G.K mg base 10 f (sp0 G C_law) := by
  refine fn0G F sc_law hb (fun ds o ⟨ns, e, _⟩ => by rw [e]; rfl) (by decide) fun cdv A outer s H E hr gd ds o hC => ?_
  obtain ⟨ns, rfl, rfl⟩ := hC
  obtain ⟨n, hn, hn3⟩ : ∃ n : Nat, (if (if (3 : Int) < (ns.length : Int) then (3 : Int) else (ns.length : Int)) > 1 then (if (3 : Int) < (ns.length : Int) then (3 : Int) else (ns.length : Int)) else 1) = (n : Int) ∧ n ≤ 3 := by
    refine ⟨(if (if (3 : Int) < (ns.length : Int) then (3 : Int) else (ns.length : Int)) > 1 then (if (3 : Int) < (ns.length : Int) then (3 : Int) else (ns.length : Int)) else 1).toNat, ?_, ?_⟩ <;> split <;> split <;> omega
  refine sx_one (sx_try ?_)
  refine sx_cut (fun c => ∃ c1 c2 c3 c4 c5 c6 c7 c8 c9, c = [.val (.scr ns), c1, c2, c3, c4, c5, c6, c7, c8, c9, .no]) (sx_for (its := rng n) (ei_range (evv_cons (ev_is (ev_max2 (evv_cons ev_int (evv_cons (ev_min2 (evv_cons (ev_lenScr (ev_v 0 rfl) T.len rfl) (evv_cons ev_int evv_nil)) rfl T.min rfl) evv_nil)) rfl T.max rfl) (congrArg D.int hn)) evv_nil) rfl T.range (by omega)) (fun i c => ∃ c1 c2 c3 c4 c5 c6 c7 c8 c9, c = [.val (.scr ns), c1, c2, c3, c4, c5, c6, c7, c8, c9, .no]) ⟨_, _, _, _, _, _, _, _, _, rfl⟩ (fun i d c hi hI => ?_) (fun c hI => hI) rfl) fun c hc => ?_
  · obtain ⟨c1, c2, c3, c4, c5, c6, c7, c8, c9, rfl⟩ := hI
    obtain ⟨hin, rfl⟩ := Fx.rng_get hi
    refine ⟨_, _, eg_name 1 sc_law.nd rfl (.inl rfl) (.inl rfl), ?_⟩
    refine sx_cons (sx_setN 3 (evn_fn0 F_source hr (by decide) (evv_cons (ev_fn0 F_cell hr (by decide) (evv_cons (ev_v 0 rfl) (evv_cons (ev_v 1 rfl) evv_nil)) ⟨ns, i, rfl, rfl⟩ (by rfl)) evv_nil) ⟨ns.getD i 0, rfl, rfl⟩ rfl) (fun l => ?_) sc_law.nd rfl (.inl rfl) (.inl rfl))
    generalize hp0 : ((if ns.getD i 0 - 10 ^ 18 > 0 then ns.getD i 0 - 10 ^ 18 else 0, ns.getD i 0 % 2147483629 + 1, 0) : Pn) = p0
    have g0 : Gd2 0 p0 := by
      rw [← hp0]
      have h1 := Int.emod_nonneg (ns.getD i 0) (b := 2147483629) (by decide)
      have h2 := Int.emod_lt_of_pos (ns.getD i 0) (b := 2147483629) (by decide)
      exact ⟨by show 0 ≤ _ + 1; omega, by show _ + 1 < 2147483648; omega, Int.le_refl _, Int.le_refl _⟩
    refine sx_one (sx_for (its := rng 6) (ei_range (n := 6) (evv_cons ev_int evv_nil) rfl T.range (by decide)) (fun j c => ∃ p c4 c5 c6 c7 c8 c9, c = [.val (.scr ns), .val (.int (i : Int)), c2, .own l (penD p), c4, c5, c6, c7, c8, c9, .no] ∧ Gd2 (1000 * (j : Int)) p) ⟨p0, _, _, _, _, _, _, rfl, g0.le (by decide)⟩ (fun j d c hj hJ => ?_) (fun c hJ => ?_) rfl)
    · obtain ⟨p, c4, c5, c6, c7, c8, c9, rfl, hg⟩ := hJ
      obtain ⟨hj6, rfl⟩ := Fx.rng_get hj
      have d1 := dr2_lo p (m := 6) (by decide)
      have n1 := dr2_nx p 6
      obtain ⟨wd, hwd⟩ : ∃ k : Nat, 1 + (dr2 p 6).1 = (k : Int) := ⟨(1 + (dr2 p 6).1).toNat, by omega⟩
      have h1 : 1 ≤ wd := by omega
      have h6 : wd ≤ 6 := by omega
      have g1 := hg.nx n1 (c := 10000) (by omega)
      refine ⟨_, _, eg_name 4 sc_law.nd rfl (.inl rfl) (.inl rfl), ?_⟩
      refine sx_cons (sx_set 5 (ev_is (ev_b b_add ev_int (ev_fn1 3 F_draw hr (by decide) (evp_cons (i := 3) rfl rfl (.inl rfl) (evv_cons ev_int evv_nil)) rfl ⟨p, 6, rfl, rfl, by decide, by decide, hg.le (by omega), rfl, rfl⟩ (by rfl))) (congrArg D.int hwd)) ?_ sc_law.nd rfl (.inl rfl) (.inl rfl))
      generalize (dr2 p 6).2 = p1 at n1 g1
      refine sx_cut (fun c => ∃ (p' : Pn) (x : Str), c = ycs ns i c2 l p' j (.val (.int (wd : Int))) (.val (.str x)) c7 c8 c9 ∧ Gt 2000 x ∧ Nx2 71 p1 p') (sx_setR 6 (R := fun d c => ∃ (p' : Pn) (x : Str), d = .str x ∧ c = ycs ns i c2 l p' j (.val (.int (wd : Int))) c6 c7 c8 c9 ∧ Gt 2000 x ∧ Nx2 71 p1 p') (evr_fn0R F_text hr (by decide) (R := fun ds c => ∃ (p' : Pn) (rows : List (List Int)), ds = [.lst (rows.map encW)] ∧ Rws (wd : Int) rows ∧ rows.length ≤ 6 ∧ Nx2 71 p1 p' ∧ c = ycs ns i c2 l p' j (.val (.int (wd : Int))) c6 c7 c8 c9) (EvVR.mono (evvr_lastR (R1 := fun d c => ∃ (p' : Pn) (rows : List (List Int)), d = .lst (rows.map encW) ∧ Rws (wd : Int) rows ∧ rows.length ≤ 6 ∧ Nx2 71 p1 p' ∧ c = ycs ns i c2 l p' j (.val (.int (wd : Int))) c6 c7 c8 c9) (evr_fn1R (l := l) 3 F_lines hr (by decide) (R := fun ds c => ∃ (p' : Pn) (v : Nat), ds = [.int (wd : Int), .int ((6 : Nat) : Int), .int (v : Int)] ∧ v ≤ 9999 ∧ Nx2 1 p1 p' ∧ c = ycs ns i c2 l p' j (.val (.int (wd : Int))) c6 c7 c8 c9) (evpr_cons (i := 3) rfl rfl (.inl rfl) (EvVR.mono (evvr_cons (ev_v 5 rfl) (evvr_cons ev_int (evvr_lastR (evr_fn1 3 F_choose hr (by decide) (evp_cons (i := 3) rfl rfl (.inl rfl) (evv_cons (EvN.ev (evn_lst (evv_cons ev_int (evv_cons ev_int (evv_cons ev_int evv_nil))) rfl)) evv_nil)) rfl ⟨_, _, rfl, rfl, g1.le (by decide), .inl ⟨_, rfl, by decide, by decide⟩⟩ (by rfl))))) fun ds c hy => ?_)) (fun ds c hR => ?_) (by rfl))) (fun ds c ⟨d, e, hy⟩ => ?_)) (fun ds c hR => ?_) (by rfl)) (fun d c hR => ?_) sc_law.nd rfl (.inl rfl) (.inl rfl)) fun c hc => ?_
      · obtain ⟨r, rfl, r2, rfl, d, rfl, qs', ⟨q1, p2, e1, e2, nx2, hm, _⟩, rfl⟩ := hy
        cases penD_inj e1
        subst e2
        have hd := hm _ rfl
        have hv : ∃ v : Nat, d = .int (v : Int) ∧ v ≤ 9999 := by
          simp only [List.mem_cons, List.not_mem_nil, or_false] at hd
          rcases hd with rfl | rfl | rfl
          · exact ⟨2, rfl, by decide⟩
          · exact ⟨99, rfl, by decide⟩
          · exact ⟨9999, rfl, by decide⟩
        obtain ⟨v, rfl, hv⟩ := hv
        exact ⟨p2, v, rfl, hv, nx2, rfl⟩
      · obtain ⟨p2, v, rfl, hv, nx2, rfl⟩ := hR
        have g2 := g1.nx nx2 (c := 10001) (by omega)
        refine ⟨penD p2, rfl, ⟨p2, wd, 6, v, rfl, rfl, h1, h6, by decide, hv, g2.le (by decide)⟩, fun d qs' hR1 => ?_⟩
        obtain ⟨q1, p3, w3, m3, v3, rows, e1, rfl, e3, rfl, hl, hok, nx3⟩ := hR1
        cases penD_inj e1
        injection e3 with e3 e4
        injection e4 with e4 e5
        injection e5 with e5 _
        injection e3 with e3
        injection e4 with e4
        injection e5 with e5
        have ew : w3 = wd := by omega
        have em : m3 = 6 := by omega
        have ev : v3 = v := by omega
        subst ew em ev
        exact ⟨p3, rows, rfl, rws_okC hok hv (by omega), hl, (nx2.trans nx3).le (by decide), rfl⟩
      · obtain ⟨p', rows, rfl, hR', hl, nx, rfl⟩ := hy
        exact ⟨p', rows, e, hR', hl, nx, rfl⟩
      · obtain ⟨p', rows, rfl, hR', hl, nx, rfl⟩ := hR
        exact ⟨_, ⟨wd, rows, rfl, h6, hR', rfl⟩, p', rwsT rows, rfl, rfl, gt_rows (by omega) hR' (by omega), nx⟩
      · obtain ⟨p', x, rfl, rfl, gx, nq⟩ := hR
        exact ⟨p', x, rfl, gx, nq⟩
      obtain ⟨p2, x, rfl, gx, n2⟩ := hc
      have g2 := g1.nx n2 (c := 10071) (by omega)
      refine sx_cut (fun c => ∃ (p' : Pn) (c7 : Cell), c = ycs ns i c2 l p' j (.val (.int (wd : Int))) (.val (.str x)) c7 c8 c9 ∧ Nx2 30 p2 p') (sx_forR (R := fun its c => GoodT its ∧ ∃ p', Nx2 30 p2 p' ∧ c = ycs ns i c2 l p' j (.val (.int (wd : Int))) (.val (.str x)) c7 c8 c9) (eir_list (EvNR.evr (RN := fun its c => GoodT its ∧ ∃ p', Nx2 30 p2 p' ∧ c = ycs ns i c2 l p' j (.val (.int (wd : Int))) (.val (.str x)) c7 c8 c9) (evnr_lst (evvr_cons (ev_v 6 rfl) (evvr_consR (R2 := fun d r c => ∃ (p' : Pn) (y : Str), d = .str y ∧ Gt 20000 y ∧ GoodT r ∧ r.length ≤ 2 ∧ Nx2 30 p2 p' ∧ c = ycs ns i c2 l p' j (.val (.int (wd : Int))) (.val (.str x)) c7 c8 c9) (evr_fn1 3 F_bent hr (by decide) (evp_cons (i := 3) rfl rfl (.inl rfl) (evv_cons (ev_v 6 rfl) evv_nil)) rfl ⟨_, x, rfl, rfl, gx, g2.le (by decide)⟩ (by rfl)) (fun d1 c1 hR1 => ?_))) (fun ds c hR => ?_)) (fun ds c hR => ⟨ds, rfl, hR⟩))) (fun its m c => GoodT its ∧ ∃ p' c7, Nx2 30 p2 p' ∧ c = ycs ns i c2 l p' j (.val (.int (wd : Int))) (.val (.str x)) c7 c8 c9) (fun its c ⟨h1, p', h2, h3⟩ => ⟨h1, p', _, h2, h3⟩) (fun its m d c hm hM => ?_) (fun its c ⟨_, p', c7, h2, h3⟩ => ⟨p', c7, h3, h2⟩) rfl) fun c hc => ?_
      · obtain ⟨qs', ⟨q1, p3, y1, e1, e2, rfl, gy1, nq1⟩, rfl⟩ := hR1
        cases penD_inj e1
        subst e2
        have g3 := g2.nx nq1 (c := 10081) (by omega)
        refine EvVR.mono (evvr_consR (R2 := fun d r c => ∃ (p' : Pn) (y z : Str), d = .str y ∧ r = [.str z] ∧ Gt 20000 y ∧ Gt 20000 z ∧ Nx2 30 p2 p' ∧ c = ycs ns i c2 l p' j (.val (.int (wd : Int))) (.val (.str x)) c7 c8 c9) (evr_fn1 3 F_bent hr (by decide) (evp_cons (i := 3) rfl rfl (.inl rfl) (evv_cons (ev_v 6 rfl) evv_nil)) rfl ⟨_, x, rfl, rfl, gx, g3.le (by decide)⟩ (by rfl)) (fun d2 c2' hR2 => ?_)) fun z c hz => ?_
        · obtain ⟨qs', ⟨q1, p4, y2, e1, e2, rfl, gy2, nq2⟩, rfl⟩ := hR2
          cases penD_inj e1
          subst e2
          have g4 := g3.nx nq2 (c := 10091) (by omega)
          refine EvVR.mono (evvr_lastR (evr_fn1 3 F_bent hr (by decide) (evp_cons (i := 3) rfl rfl (.inl rfl) (evv_cons (ev_v 6 rfl) evv_nil)) rfl ⟨_, x, rfl, rfl, gx, g4.le (by decide)⟩ (by rfl))) fun z c hz => ?_
          obtain ⟨d3, rfl, qs', ⟨q1, p5, y3, e1, e2, rfl, gy3, nq3⟩, rfl⟩ := hz
          cases penD_inj e1
          subst e2
          exact ⟨p5, y2, y3, rfl, rfl, gy2, gy3, ((nq1.trans nq2).trans nq3).le (by decide), rfl⟩
        · obtain ⟨d2, r, rfl, p', y, z, rfl, rfl, gy, gz, nq, rfl⟩ := hz
          refine ⟨p', y1, rfl, gy1, fun d hd => ?_, by simp, nq, rfl⟩
          simp only [List.mem_cons, List.not_mem_nil, or_false] at hd
          rcases hd with rfl | rfl
          · exact ⟨y, rfl, gy⟩
          · exact ⟨z, rfl, gz⟩
      · obtain ⟨r, rfl, d, r2, rfl, p', y, rfl, gy, gr, hl2, nq, rfl⟩ := hR
        refine ⟨by simp only [List.length_cons]; omega, fun d hd => ?_, p', nq, rfl⟩
        rcases List.mem_cons.mp hd with rfl | hd
        · exact ⟨x, rfl, gx.le (by decide)⟩
        · rcases List.mem_cons.mp hd with rfl | hd
          · exact ⟨y, rfl, gy⟩
          · exact gr d hd
      · obtain ⟨hgood, p', c7', nq, rfl⟩ := hM
        obtain ⟨y, rfl, gy⟩ := hgood d (List.mem_of_getElem? hm)
        refine ⟨_, _, eg_name 7 sc_law.nd rfl (.inl rfl) (.inl rfl), ?_⟩
        exact sx_one (sx_if (et_not (et_val (ev_fn0G F_right gd hr (by decide) (evv_cons (ev_v 5 rfl) (evv_cons (ev_v 7 rfl) evv_nil)) ⟨wd, _, rfl, h1, h6, txd_str gy, rfl⟩ rfl))) (fun hb => by cases hb) (fun _ => sx_nil ⟨hgood, p', _, nq, rfl⟩))
      obtain ⟨p3, c7', rfl, n3⟩ := hc
      have g3 := g2.nx n3 (c := 10101) (by omega)
      have tx : Txd (.str x) := txd_str (gx.le (by decide))
      have hm1 : (1 : Int) + (wd : Int) % 6 = ((1 + wd % 6 : Nat) : Int) := by omega
      refine sx_cons (sx_if (et_not (et_val (ev_fn0G F_right gd hr (by decide) (evv_cons (ev_is (ev_b b_add ev_int (ev_b (b_mod (by decide)) (ev_v 5 rfl) ev_int)) (congrArg D.int hm1)) (evv_cons (ev_v 6 rfl) evv_nil)) ⟨1 + wd % 6, _, rfl, by omega, by omega, tx, rfl⟩ rfl))) (fun hb => by cases hb) (fun _ => sx_nil ?_))
      refine sx_cut (fun c => ∃ c8, c = ycs ns i c2 l p3 j (.val (.int (wd : Int))) (.val (.str x)) c7' c8 c9) (sx_for (its := [.non, .int 0, .bl true, .lst [.str x], .tup [.str x], .emp, .str "0", .str "\n", .int (10 ^ 12)]) (ei_list (EvN.ev (evn_lst (evv_c5 ev_non ev_int ev_bl (EvN.ev (evn_lst (evv_cons (ev_v 6 rfl) evv_nil) rfl)) (ev_tup (evv_cons (ev_v 6 rfl) evv_nil) rfl) (evv_cons ev_emp (evv_cons ev_str (evv_cons ev_str (evv_cons (ev_b (b_pow (by unfold CPow; decide)) ev_int ev_int) evv_nil))))) rfl))) (fun m c => ∃ c8, c = ycs ns i c2 l p3 j (.val (.int (wd : Int))) (.val (.str x)) c7' c8 c9) ⟨_, rfl⟩ (fun m d c hm hM => ?_) (fun c hM => hM) rfl) fun c hc => ?_
      · obtain ⟨c8', rfl⟩ := hM
        have td : Txd d := txd_odd (List.mem_of_getElem? hm)
        refine ⟨_, _, eg_name 8 sc_law.nd rfl (.inl rfl) (.inl rfl), ?_⟩
        exact sx_one (sx_if (et_not (et_val (ev_fn0G F_right gd hr (by decide) (evv_cons (ev_v 5 rfl) (evv_cons (ev_v 8 rfl) evv_nil)) ⟨wd, _, rfl, h1, h6, td, rfl⟩ rfl))) (fun hb => by cases hb) (fun _ => sx_nil ⟨_, rfl⟩))
      obtain ⟨c8', rfl⟩ := hc
      refine sx_cut (fun c => ∃ (p' : Pn) (d : D), c = ycs ns i c2 l p' j (.val (.int (wd : Int))) (.val (.str x)) c7' c8' (.val d) ∧ d ∈ badL ∧ Nx2 1 p3 p') (sx_setR 9 (EvR.mono (evr_fn1 3 F_choose hr (by decide) (evp_cons (i := 3) rfl rfl (.inl rfl) (evv_cons (EvN.ev (evn_lst (ds := badL) (evv_c5 ev_int ev_int (ev_neg ev_int) ev_non ev_bl (evv_c5 ev_bl ev_str (ev_tup (evv_cons ev_int evv_nil) rfl) (EvN.ev (evn_lst (evv_cons ev_int evv_nil) rfl)) ev_emp evv_nil)) rfl)) evv_nil)) rfl ⟨_, _, rfl, rfl, g3.le (by decide), .inl ⟨_, rfl, by decide, by decide⟩⟩ (by rfl)) fun d c hy => hy) (fun d c hy => ?_) sc_law.nd rfl (.inl rfl) (.inl rfl)) fun c hc => ?_
      · obtain ⟨qs', ⟨q1, q2, e1, e2, nq, hm3, _⟩, rfl⟩ := hy
        cases penD_inj e1
        subst e2
        exact ⟨q2, d, rfl, hm3 _ rfl, nq⟩
      obtain ⟨p4, bd, rfl, hbd, n4⟩ := hc
      obtain ⟨kb, bb⟩ := bad_ok hbd
      exact sx_one (sx_if (et_is (et_w (ew_or (et_not (et_val (ev_fn0 F_refused hr (by decide) (evv_cons (ev_v 9 rfl) (evv_cons (ev_v 6 rfl) evv_nil)) ⟨bd, _, rfl, kb, bb, rfl⟩ rfl))) fun _ => ew_or1 (et_not (et_val (ev_fn0 F_refused hr (by decide) (evv_cons (ev_v 9 rfl) (evv_cons ev_non evv_nil)) ⟨bd, _, rfl, kb, bb, rfl⟩ rfl))))) (k1 := false) rfl) (fun hb => by cases hb) (fun _ => sx_nil ⟨_, _, _, _, _, _, _, rfl, hg.nx ((n1.trans n2).trans (n3.trans n4)) (by omega)⟩))
    · obtain ⟨p, c4, c5, c6, c7, c8, c9, rfl, hg⟩ := hJ
      exact ⟨_, _, _, _, _, _, _, _, _, rfl⟩
  obtain ⟨c1, c2, c3, c4, c5, c6, c7, c8, c9, rfl⟩ := hc
  refine sx_cons (sx_for (its := [.int 399, .int 400, .int 401, .int 402]) (ei_list (EvN.ev (evn_lst (evv_cons ev_int (evv_cons ev_int (evv_cons ev_int (evv_cons ev_int evv_nil)))) rfl))) (fun m c => ∃ c2, c = [.val (.scr ns), c1, c2, c3, c4, c5, c6, c7, c8, c9, .no]) ⟨_, rfl⟩ (fun m d c hm hM => ?_) (fun c hM => sx_one (sx_ret ev_bl rfl)) rfl)
  obtain ⟨c2', rfl⟩ := hM
  obtain ⟨q, rfl, hq⟩ : ∃ q : Nat, d = .int (q : Int) ∧ q ≤ 402 := by
    have := List.mem_of_getElem? hm
    simp only [List.mem_cons, List.not_mem_nil, or_false] at this
    rcases this with rfl | rfl | rfl | rfl
    · exact ⟨399, rfl, by decide⟩
    · exact ⟨400, rfl, by decide⟩
    · exact ⟨401, rfl, by decide⟩
    · exact ⟨402, rfl, by decide⟩
  have l7 : (" 7\n" : Str).length = 3 := by decide +kernel
  have l00 : ("" : Str).length = 0 := by decide +kernel
  have hsum := sum_le7 ((List.range q).map fun (i : Nat) => nS (i : Int) ++ " 7\n") fun s hs => by
    obtain ⟨i, hi, rfl⟩ := List.mem_map.mp hs
    exact big_len i (by have := List.mem_range.mp hi; omega)
  rw [List.length_map, List.length_range] at hsum
  refine ⟨_, _, eg_name 2 sc_law.nd rfl (.inl rfl) (.inl rfl), ?_⟩
  refine sx_one (sx_if (et_not (et_val (ev_fn0G F_right gd hr (by decide) (evv_cons ev_int (evv_cons (ev_join (ys := (List.range q).map fun (i : Nat) => nS (i : Int) ++ " 7\n") ev_str (ev_is (EvN.ev (evn_lc (own := [("_law_at", 10)]) (evn_pure (List.range q) (fun (i : Nat) => D.int (i : Int)) (fun _ => true) (fun (i : Nat) => D.str (nS (i : Int) ++ " 7\n")) (ei_is (ei_range (n := q) (evv_cons (ev_v 2 rfl) evv_nil) (by rfl) T.range (by omega)) ?_) (by rw [List.length_range]; omega) fun i hi => ⟨_, _, by decide, fun _ _ _ _ _ => (eg_name 10 sc_law.nd rfl (.inl rfl) (.inr rfl)), fun _ _ _ _ _ => ets_nil, fun _ _ _ _ _ _ => ev_b (b_addS ?_) (ev_strI (ev_v 10 rfl) ?_ T.str (by rfl)) ev_str, rfl⟩) (by rfl) sc_law.nd (blkOk_by (N := N_law) (sc := defScope s_law) (by decide +kernel)))) ?_) ?_) evv_nil)) ⟨2, _, rfl, by decide, by decide, txd_str (gt_big (n := q) (by omega)), rfl⟩ rfl))) (fun hb => by cases hb) (fun _ => sx_nil ⟨_, rfl⟩))
  · rfl
  · have := List.mem_range.mp hi
    have h4 := (len_val (v := (i : Int)) ⟨by omega, by omega⟩).2
    rw [l7]
    show (nS (i : Int)).length + 3 ≤ _
    omega
  · have := List.mem_range.mp hi
    exact nS_log ⟨by omega, by omega⟩
  · rw [List.filter_eq_self.mpr (by simp), List.map_map]
    rfl
  · rw [l00]
    omega
end
end Pr

namespace Pr
open PySem L2 Fx Mt
abbrev s_prop1_rows : Stmt := inClass (top 31) 4
abbrev s_prop1_width : Stmt := inClass (top 31) 3
def hfa0 : List (PySem.W.Frag → Bool) := [(fun _ => true), (fun K => bnames.all fun n => (He.Fa.free n).ok K), (fun K => (He.Fa.str "SETTLES" "settles").ok K), (fun K => (He.Fa.str "WITHIN" "within").ok K), (fun K => (He.Fa.int "MOST_WIDTH" 6).ok K), (fun _ => true), (fun _ => true), (fun _ => true), (fun _ => true), (fun _ => true), (fun _ => true), (fun _ => true), (fun K => (He.Fa.glo "Table").ok K), (fun K => (He.Fa.cls "Table").ok K), (fun K => (He.Fa.noat "Table" "columns").ok K), (fun K => (He.Fa.noat "Table" "kept").ok K), (fun K => (He.Fa.mkr "Table").ok K), fTy "Table", fKit "Table", fRead "Table"]
def hfa1 : List (PySem.W.Frag → Bool) := [fProp "Table" "rows", fProp "Table" "width", (fun K => (He.Fa.glo "is_integer").ok K), (fun K => (He.Fa.glo "is_between").ok K), (fun K => (He.Fa.glo "need_width").ok K), (fun K => (He.Fa.glo "is_column").ok K), (fun K => (He.Fa.glo "is_rule").ok K), (fun K => (He.Fa.glo "need_rule").ok K), fXC "NoWidth", (fun K => (He.Fa.glo "NoWidth").ok K), (fun K => (He.Fa.glo "holds").ok K), (fun K => (He.Fa.glo "is_row").ok K), (fun K => (He.Fa.glo "are_rows").ok K), (fun K => (He.Fa.glo "number_of").ok K), (fun K => (He.Fa.meth "Table" "text").ok K), fCM "Table" "read", fCall "Table", fXC "NoText", (fun K => (He.Fa.glo "NoText").ok K), (fun K => (He.Fa.glo "_law_cell").ok K)]
def hfa2 : List (PySem.W.Frag → Bool) := [(fun K => (He.Fa.glo "_law_source").ok K), (fun K => (He.Fa.glo "_law_draw").ok K), (fun K => (He.Fa.glo "_law_choose").ok K), (fun K => (He.Fa.glo "_law_is_equal").ok K), (fun K => (He.Fa.glo "_law_lines").ok K), (fun K => (He.Fa.glo "_law_text").ok K), fLen "Table", (fun K => (He.Fa.glo "_law_number").ok K), (fun K => (He.Fa.glo "_law_due").ok K), fExm "NoText" "NoText" true, (fun K => (He.Fa.glo "_law_is_right").ok K), fExm "NoWidth" "NoWidth" true, (fun K => (He.Fa.glo "_law_is_refused").ok K), (fun K => (He.Fa.glo "_law_bent").ok K), (fun K => (He.Fa.glo "law").ok K), (fun K => (He.Fa.int "MOST_ROWS" 400).ok K), (fun K => (He.Fa.int "MOST_VALUE" 9999).ok K), (fun K => (He.Fa.str "DIGITS" "0123456789").ok K), fKt "Table"]
def hfa : List (PySem.W.Frag → Bool) := hfa0 ++ hfa1 ++ hfa2
def hfn0 : List Df := [⟨aP "Table" "rows", "rows", "Table.rows", s_prop1_rows⟩, ⟨aP "Table" "width", "width", "Table.width", s_prop1_width⟩, ⟨aG "is_integer", "is_integer", "is_integer", s_is_integer⟩, ⟨aG "is_between", "is_between", "is_between", s_is_between⟩, ⟨aG "need_width", "need_width", "need_width", s_need_width⟩, ⟨aG "is_column", "is_column", "is_column", s_is_column⟩, ⟨aG "is_rule", "is_rule", "is_rule", s_is_rule⟩, ⟨aG "need_rule", "need_rule", "need_rule", s_need_rule⟩, ⟨aG "is_integer", "is_integer", "is_integer", s_is_integer⟩, ⟨aG "is_between", "is_between", "is_between", s_is_between⟩, ⟨aG "need_width", "need_width", "need_width", s_need_width⟩, ⟨aG "is_column", "is_column", "is_column", s_is_column⟩, ⟨aG "is_rule", "is_rule", "is_rule", s_is_rule⟩, ⟨aG "holds", "holds", "holds", s_holds⟩, ⟨aG "is_row", "is_row", "is_row", s_is_row⟩, ⟨aG "are_rows", "are_rows", "are_rows", s_are_rows⟩, ⟨aG "number_of", "number_of", "number_of", s_number_of⟩, ⟨aM "Table" "__init__", "__init__", "Table.__init__", s_tinit⟩, ⟨aM "Table" "text", "text", "Table.text", s_ttext⟩, ⟨aK "Table" "read", "read", "Table.read", s_tread⟩]
def hfn1 : List Df := [⟨aM "Table" "__call__", "__call__", "Table.__call__", s_tcall⟩, ⟨aG "is_row", "is_row", "is_row", s_is_row⟩, ⟨aG "are_rows", "are_rows", "are_rows", s_are_rows⟩, ⟨aG "number_of", "number_of", "number_of", s_number_of⟩, ⟨aK "Table" "read", "read", "Table.read", s_tread⟩, ⟨aG "_law_cell", "_law_cell", "_law_cell", s_law_cell⟩, ⟨aG "_law_source", "_law_source", "_law_source", s_law_source⟩, ⟨aG "_law_draw", "_law_draw", "_law_draw", s_law_draw⟩, ⟨aG "_law_choose", "_law_choose", "_law_choose", s_law_choose⟩, ⟨aG "_law_is_equal", "_law_is_equal", "_law_is_equal", s_law_is_equal⟩, ⟨aG "_law_lines", "_law_lines", "_law_lines", s_law_lines⟩, ⟨aG "_law_text", "_law_text", "_law_text", s_law_text⟩, ⟨aM "Table" "__len__", "__len__", "Table.__len__", s_tlen⟩, ⟨aG "_law_number", "_law_number", "_law_number", s_law_number⟩, ⟨aG "_law_due", "_law_due", "_law_due", s_law_due⟩, ⟨aG "_law_is_right", "_law_is_right", "_law_is_right", s_law_is_right⟩, ⟨aG "_law_is_refused", "_law_is_refused", "_law_is_refused", s_law_is_refused⟩, ⟨aG "_law_bent", "_law_bent", "_law_bent", s_law_bent⟩, ⟨aG "law", "law", "law", s_law⟩]
def hfn : List Df := hfn0 ++ hfn1
def hnm0 : List Str := ["_wall", "ColumnError", "NoWidth", "NoRows", "NoRule", "NoText", "NotTable", "UnlikeWidths", "TooMuch", "SETTLES", "WITHIN", "holds", "MOST_WIDTH", "is_integer", "is_between", "need_width", "is_column", "is_rule", "need_rule", "MOST_ROWS"]
def hnm1 : List Str := ["MOST_VALUE", "SMALL", "DIGITS", "is_row", "are_rows", "number_of", "paired", "Table", "table_of", "need_table", "need_like", "_law_cell", "_law_source", "_law_draw", "_law_choose", "_law_is_equal", "_law_lines", "_law_text", "_law_number", "_law_due"]
def hnm2 : List Str := ["_law_is_right", "_law_bent", "_law_is_refused"]
def hnm : List Str := hnm0 ++ hnm1 ++ hnm2
def gxc (K : PySem.W.Frag) : Nat → Addr
  | 10 => He.ga K "ColumnError"
  | 11 => He.ga K "NoWidth"
  | 12 => He.ga K "NoRows"
  | 15 => He.ga K "NoRule"
  | 18 => He.ga K "NoText"
  | 19 => He.ga K "NotTable"
  | 21 => He.ga K "UnlikeWidths"
  | 22 => He.ga K "TooMuch"
  | 1 => He.ga K "Table"
  | _ => He.ga K "Table"
abbrev gx (K : PySem.W.Frag) : Gx := ⟨K, gxc K, fun _ => ["columns", "kept"]⟩
abbrev hRow : PySem.W.OpenRow := PySem.W.OpenLaw.row PySem.Challenge.rw_countcycles_k02_texts_of_tables
abbrev hk : PySem.W.Hook := hookZ 6 [cStatics] hfa hfn
def hob (s : PySem.W.SharedT) : AlY := obsZG 6 [cStatics] hfa hfn (HandSHeadRun.getT s)
theorem hob_eq (s : PySem.W.SharedT) : hob s = hk.obs s.abs := obsZG_eq (HandSHeadRun.getT_eq s)
theorem hrun (w : World) : HandSHeadRun.RunEq hRow (PySem.W.view hRow.prog [48]) hk hob 8000 hnm w := by
  intro os
  kernel_rfl
theorem hfacts {P : Program} {w : World} {K : PySem.W.Frag} {h : Heap} {mg : Str → Option Value} {f : Addr} (X : K.In h) (Gn : h.Ns mainGlobals mg) (hlaw : mg ("law" : Str) = some (.ref f)) (c : SaysY hfa hfn K) :
    ∃ fd : FuncData, (∀ (s : Shared) (v : Value), BindsTo s fd ⟨[v], []⟩ [("_law_script", v)]) ∧ ∀ base : Heap, FnG P w K mg base 10 f (sp0 (gx K) C_law) := by
  obtain ⟨fdL, FL⟩ := c.def_ 38
  have e := hlaw.symm.trans (He.glo_ok X Gn (c.fact 54))
  cases e
  have bL : Binds K fdL ["_law_script"] [] := FL.binds fun _ _ _ _ _ _ us hl => match us, hl with | [_], _ => rfl
  refine ⟨fdL, fun s v => bindsTo1 FL (fun _ _ _ _ _ _ u => rfl) s v, fun base => ?_⟩
  have T : Tx mg := ⟨fun n hn => He.free_ok X Gn (List.all_eq_true.mp (c.fact 1) n hn), He.str_ok X Gn (c.fact 2), He.str_ok X Gn (c.fact 3), He.int_ok X Gn (c.fact 4)⟩
  have V : TxT mg := ⟨He.int_ok X Gn (c.fact 55), He.int_ok X Gn (c.fact 56)⟩
  have V2 : TxD mg := ⟨He.str_ok X Gn (c.fact 57)⟩
  let G : Gx := gx K
  have KT : TC G mg := ⟨rfl, He.cls_ok (c.fact 13), He.noat_ok (c.fact 14), He.noat_ok (c.fact 15), He.glo_ok X Gn (c.fact 12), fTy_ok (c.fact 17) (He.cls_ok (c.fact 13)), of_decide_eq_true (c.fact 18)⟩
  have HO : Ocs G := fun c1 hc1 => by
    simp only [ocs, List.mem_cons, List.not_mem_nil, or_false] at hc1
    rcases hc1 with rfl | rfl
    · exact ⟨KT.ty, fKt_ok (c.fact 58)⟩
    · exact ⟨KT.ty, fKt_ok (c.fact 58)⟩
  obtain ⟨fd0, F0⟩ := c.def_ 0
  have B0 : Binds K fd0 ["self"] [] := F0.binds fun _ _ _ _ _ _ us hl => match us, hl with | [_], _ => rfl
  have Y0 : PkProp G P w mg base 1 1 "rows" "kept" := ⟨_, _, _, fProp_ok (c.fact 20), ok_getter F0 ⟨rfl, rfl, rfl, by decide +kernel, rfl, by decide +kernel, by decide +kernel⟩ rfl KT.cl (He.noat_ok (c.fact 15)), B0⟩
  obtain ⟨fd1, F1⟩ := c.def_ 1
  have B1 : Binds K fd1 ["self"] [] := F1.binds fun _ _ _ _ _ _ us hl => match us, hl with | [_], _ => rfl
  have Y1 : PkProp G P w mg base 1 1 "width" "columns" := ⟨_, _, _, fProp_ok (c.fact 21), ok_getter F1 ⟨rfl, rfl, rfl, by decide +kernel, rfl, by decide +kernel, by decide +kernel⟩ rfl KT.cl (He.noat_ok (c.fact 14)), B1⟩
  obtain ⟨fd2, F2⟩ := c.def_ 2
  have B2 : Binds K fd2 ["thing"] [] := F2.binds fun _ _ _ _ _ _ us hl => match us, hl with | [_], _ => rfl
  have Y2 : Fn0 G P w mg base 1 "is_integer" C_is_integer := ⟨_, He.glo_ok X Gn (c.fact 22), F2.kp, ok_is_integer F2 B2 T⟩
  obtain ⟨fd3, F3⟩ := c.def_ 3
  have B3 : Binds K fd3 ["thing", "low", "high"] [] := F3.binds fun _ _ _ _ _ _ us hl => match us, hl with | [_, _, _], _ => rfl
  have Y3 : Fn0 G P w mg base 2 "is_between" C_is_between := ⟨_, He.glo_ok X Gn (c.fact 23), F3.kp, ok_is_between F3 B3 Y2⟩
  obtain ⟨fd4, F4⟩ := c.def_ 4
  have B4 : Binds K fd4 ["thing"] [] := F4.binds fun _ _ _ _ _ _ us hl => match us, hl with | [_], _ => rfl
  have Y4 : Fn0 G P w mg base 3 "need_width" C_need_width := ⟨_, He.glo_ok X Gn (c.fact 24), F4.kp, ok_need_width F4 B4 T Y3⟩
  obtain ⟨fd5, F5⟩ := c.def_ 5
  have B5 : Binds K fd5 ["thing", "width"] [] := F5.binds fun _ _ _ _ _ _ us hl => match us, hl with | [_, _], _ => rfl
  have Y5 : Fn0 G P w mg base 3 "is_column" C_is_column := ⟨_, He.glo_ok X Gn (c.fact 25), F5.kp, ok_is_column F5 B5 Y3⟩
  obtain ⟨fd6, F6⟩ := c.def_ 6
  have B6 : Binds K fd6 ["thing", "width"] [] := F6.binds fun _ _ _ _ _ _ us hl => match us, hl with | [_, _], _ => rfl
  have Y6 : Fn0 G P w mg base 4 "is_rule" C_is_rule := ⟨_, He.glo_ok X Gn (c.fact 26), F6.kp, ok_is_rule F6 B6 T Y5⟩
  obtain ⟨fd7, F7⟩ := c.def_ 7
  have B7 : Binds K fd7 ["thing", "width"] [] := F7.binds fun _ _ _ _ _ _ us hl => match us, hl with | [_, _], _ => rfl
  have Y7 : Fn0 G P w mg base 5 "need_rule" C_need_rule := ⟨_, He.glo_ok X Gn (c.fact 27), F7.kp, ok_need_rule F7 B7 Y6⟩
  obtain ⟨fd8, F8⟩ := c.def_ 8
  have B8 : Binds K fd8 ["thing"] [] := F8.binds fun _ _ _ _ _ _ us hl => match us, hl with | [_], _ => rfl
  have Y8 : Fn0 G P w mg base 1 "is_integer" C_is_integerX := ⟨_, He.glo_ok X Gn (c.fact 22), F8.kp, ok_Xis_integer F8 B8 T HO⟩
  obtain ⟨fd9, F9⟩ := c.def_ 9
  have B9 : Binds K fd9 ["thing", "low", "high"] [] := F9.binds fun _ _ _ _ _ _ us hl => match us, hl with | [_, _, _], _ => rfl
  have Y9 : Fn0 G P w mg base 2 "is_between" C_is_betweenX := ⟨_, He.glo_ok X Gn (c.fact 23), F9.kp, ok_Xis_between F9 B9 Y8⟩
  obtain ⟨fd10, F10⟩ := c.def_ 10
  have B10 : Binds K fd10 ["thing"] [] := F10.binds fun _ _ _ _ _ _ us hl => match us, hl with | [_], _ => rfl
  have Y10 : FnX G P w mg base 3 "need_width" CX_need_width := ⟨_, He.glo_ok X Gn (c.fact 24), F10.kp, ok_Xneed_width F10 B10 T (fXC_ok (G := G) (c.fact 28) rfl (He.glo_ok X Gn (c.fact 29))) Y9⟩
  obtain ⟨fd11, F11⟩ := c.def_ 11
  have B11 : Binds K fd11 ["thing", "width"] [] := F11.binds fun _ _ _ _ _ _ us hl => match us, hl with | [_, _], _ => rfl
  have Y11 : Fn0 G P w mg base 3 "is_column" C_is_columnX := ⟨_, He.glo_ok X Gn (c.fact 25), F11.kp, ok_Xis_column F11 B11 Y9⟩
  obtain ⟨fd12, F12⟩ := c.def_ 12
  have B12 : Binds K fd12 ["thing", "width"] [] := F12.binds fun _ _ _ _ _ _ us hl => match us, hl with | [_, _], _ => rfl
  have Y12 : Fn0 G P w mg base 4 "is_rule" C_is_ruleX := ⟨_, He.glo_ok X Gn (c.fact 26), F12.kp, ok_Xis_rule F12 B12 T HO Y11⟩
  obtain ⟨fd13, F13⟩ := c.def_ 13
  have B13 : Binds K fd13 ["rows", "rule"] [] := F13.binds fun _ _ _ _ _ _ us hl => match us, hl with | [_, _], _ => rfl
  have Y13 : Fn0 G P w mg base 1 "holds" C_holds := ⟨_, He.glo_ok X Gn (c.fact 30), F13.kp, ok_holds F13 B13 T⟩
  obtain ⟨fd14, F14⟩ := c.def_ 14
  have B14 : Binds K fd14 ["thing", "width"] [] := F14.binds fun _ _ _ _ _ _ us hl => match us, hl with | [_, _], _ => rfl
  have Y14 : Fn0 G P w mg base 3 "is_row" C_is_row := ⟨_, He.glo_ok X Gn (c.fact 31), F14.kp, ok_is_row F14 B14 T V Y3⟩
  obtain ⟨fd15, F15⟩ := c.def_ 15
  have B15 : Binds K fd15 ["things", "width"] [] := F15.binds fun _ _ _ _ _ _ us hl => match us, hl with | [_, _], _ => rfl
  have Y15 : Fn0 G P w mg base 4 "are_rows" C_are_rows := ⟨_, He.glo_ok X Gn (c.fact 32), F15.kp, ok_are_rows F15 B15 T V Y14⟩
  obtain ⟨fd16, F16⟩ := c.def_ 16
  have B16 : Binds K fd16 ["word"] [] := F16.binds fun _ _ _ _ _ _ us hl => match us, hl with | [_], _ => rfl
  have Y16 : Fn0 G P w mg base 1 "number_of" C_number_of := ⟨_, He.glo_ok X Gn (c.fact 33), F16.kp, ok_number_of F16 B16 T V2⟩
  obtain ⟨fd17, F17⟩ := c.def_ 17
  have Y17 : PkInit G P w mg base 1 6 C_tinit := ⟨_, He.mkr_ok (c.fact 16), ok_tinit F17 KT Y4 Y15⟩
  obtain ⟨fd18, F18⟩ := c.def_ 18
  have B18 : Binds K fd18 ["self"] [] := F18.binds fun _ _ _ _ _ _ us hl => match us, hl with | [_], _ => rfl
  have Y18 : PkMeth0 G P w mg base 1 1 "text" C_ttext := ⟨_, _, _, He.meth_ok (c.fact 34), ok_ttext F18 T KT, B18⟩
  obtain ⟨fd19, F19⟩ := c.def_ 19
  have B19 : Binds K fd19 ["cls", "width", "text"] [] := F19.binds fun _ _ _ _ _ _ us hl => match us, hl with | [_, _, _], _ => rfl
  have Y19 : PkCls G P w mg base 1 8 "read" C_tread := ⟨_, _, _, fRead_ok (c.fact 19), fCM_ok (c.fact 35), ok_tread F19 B19 T KT Y4 Y15 Y16 Y17 Y18⟩
  obtain ⟨fd20, F20⟩ := c.def_ 20
  have B20 : Binds K fd20 ["self", "rule"] [] := F20.binds fun _ _ _ _ _ _ us hl => match us, hl with | [_, _], _ => rfl
  have Y20 : PkCall G P w mg base 1 6 C_tcall := ⟨_, fCall_ok (c.fact 36), ok_tcall F20 B20 KT Y7 Y13⟩
  obtain ⟨fd21, F21⟩ := c.def_ 21
  have B21 : Binds K fd21 ["thing", "width"] [] := F21.binds fun _ _ _ _ _ _ us hl => match us, hl with | [_, _], _ => rfl
  have Y21 : Fn0 G P w mg base 3 "is_row" C_is_rowX := ⟨_, He.glo_ok X Gn (c.fact 31), F21.kp, ok_Xis_row F21 B21 T V HO Y9⟩
  obtain ⟨fd22, F22⟩ := c.def_ 22
  have B22 : Binds K fd22 ["things", "width"] [] := F22.binds fun _ _ _ _ _ _ us hl => match us, hl with | [_, _], _ => rfl
  have Y22 : Fn0 G P w mg base 4 "are_rows" C_are_rowsX := ⟨_, He.glo_ok X Gn (c.fact 32), F22.kp, ok_Xare_rows F22 B22 T V Y21⟩
  obtain ⟨fd23, F23⟩ := c.def_ 23
  have B23 : Binds K fd23 ["word"] [] := F23.binds fun _ _ _ _ _ _ us hl => match us, hl with | [_], _ => rfl
  have Y23 : Fn0 G P w mg base 1 "number_of" C_number_ofX := ⟨_, He.glo_ok X Gn (c.fact 33), F23.kp, ok_Xnumber_of F23 B23 T V2⟩
  obtain ⟨fd24, F24⟩ := c.def_ 24
  have B24 : Binds K fd24 ["cls", "width", "text"] [] := F24.binds fun _ _ _ _ _ _ us hl => match us, hl with | [_, _, _], _ => rfl
  have Y24 : PkClsX G P w mg base 1 8 "read" CX_tread := ⟨_, _, _, fRead_ok (c.fact 19), fCM_ok (c.fact 35), ok_Xtread F24 B24 T KT HO (fXC_ok (G := G) (c.fact 37) rfl (He.glo_ok X Gn (c.fact 38))) Y10 Y22 Y23 Y17 Y18⟩
  obtain ⟨fd25, F25⟩ := c.def_ 25
  have B25 : Binds K fd25 ["_law_script", "_law_index"] [] := F25.binds fun _ _ _ _ _ _ us hl => match us, hl with | [_, _], _ => rfl
  have Y25 : Fn0 G P w mg base 1 "_law_cell" C_cell := ⟨_, He.glo_ok X Gn (c.fact 39), F25.kp, ok_law_cell F25 B25 T⟩
  obtain ⟨fd26, F26⟩ := c.def_ 26
  have B26 : Binds K fd26 ["_law_cell_here"] [] := F26.binds fun _ _ _ _ _ _ us hl => match us, hl with | [_], _ => rfl
  have Y26 : Fn0 G P w mg base 1 "_law_source" C_source := ⟨_, He.glo_ok X Gn (c.fact 40), F26.kp, ok_law_source F26 B26 T⟩
  obtain ⟨fd27, F27⟩ := c.def_ 27
  have B27 : Binds K fd27 ["_law_source_here", "_law_many"] [] := F27.binds fun _ _ _ _ _ _ us hl => match us, hl with | [_, _], _ => rfl
  have Y27 : Fn1 G P w mg base 1 "_law_draw" C_draw := ⟨_, He.glo_ok X Gn (c.fact 41), F27.kp, ok_law_draw F27 B27⟩
  obtain ⟨fd28, F28⟩ := c.def_ 28
  have B28 : Binds K fd28 ["_law_source_here", "_law_values"] [] := F28.binds fun _ _ _ _ _ _ us hl => match us, hl with | [_, _], _ => rfl
  have Y28 : Fn1R G P w mg base 2 "_law_choose" B_choose R_choose := ⟨_, He.glo_ok X Gn (c.fact 42), F28.kp, ok_law_choose F28 B28 T Y27⟩
  obtain ⟨fd29, F29⟩ := c.def_ 29
  have B29 : Binds K fd29 ["_law_actual", "_law_expected"] [] := F29.binds fun _ _ _ _ _ _ us hl => match us, hl with | [_, _], _ => rfl
  have Y29 : Fn0G G P w mg base 1 "_law_is_equal" C_equal := ⟨_, He.glo_ok X Gn (c.fact 43), F29.kp, ok_law_is_equal F29 B29 T⟩
  obtain ⟨fd30, F30⟩ := c.def_ 30
  have B30 : Binds K fd30 ["_law_source_here", "_law_width", "_law_most", "_law_value"] [] := F30.binds fun _ _ _ _ _ _ us hl => match us, hl with | [_, _, _, _], _ => rfl
  have Y30 : Fn1R G P w mg base 2 "_law_lines" B_lines R_lines := ⟨_, He.glo_ok X Gn (c.fact 44), F30.kp, ok_law_lines F30 B30 T Y27⟩
  obtain ⟨fd31, F31⟩ := c.def_ 31
  have B31 : Binds K fd31 ["_law_lines_here"] [] := F31.binds fun _ _ _ _ _ _ us hl => match us, hl with | [_], _ => rfl
  have Y31 : Fn0 G P w mg base 1 "_law_text" C_lt := ⟨_, He.glo_ok X Gn (c.fact 45), F31.kp, ok_law_text F31 B31 T⟩
  obtain ⟨fd32, F32⟩ := c.def_ 32
  have B32 : Binds K fd32 ["self"] [] := F32.binds fun _ _ _ _ _ _ us hl => match us, hl with | [_], _ => rfl
  have Y32 : PkLen G P w mg base 1 1 C_tlen := ⟨_, (fLen_ok (c.fact 46)).1, (fLen_ok (c.fact 46)).2, ok_tlen F32 B32 T KT⟩
  obtain ⟨fd33, F33⟩ := c.def_ 33
  have B33 : Binds K fd33 ["_law_word"] [] := F33.binds fun _ _ _ _ _ _ us hl => match us, hl with | [_], _ => rfl
  have Y33 : Fn0 G P w mg base 1 "_law_number" C_lnumber := ⟨_, He.glo_ok X Gn (c.fact 47), F33.kp, ok_law_number F33 B33 T⟩
  obtain ⟨fd34, F34⟩ := c.def_ 34
  have B34 : Binds K fd34 ["_law_width", "_law_text_here"] [] := F34.binds fun _ _ _ _ _ _ us hl => match us, hl with | [_, _], _ => rfl
  have Y34 : Fn0 G P w mg base 2 "_law_due" C_due2 := ⟨_, He.glo_ok X Gn (c.fact 48), F34.kp, ok_law_due F34 B34 T HO Y33⟩
  obtain ⟨fd35, F35⟩ := c.def_ 35
  have B35 : Binds K fd35 ["_law_width", "_law_text_here"] [] := F35.binds fun _ _ _ _ _ _ us hl => match us, hl with | [_, _], _ => rfl
  have Y35 : Fn0G G P w mg base 9 "_law_is_right" C_right2 := ⟨_, He.glo_ok X Gn (c.fact 50), F35.kp, ok_law_is_right F35 B35 T KT (fXC_ok (G := G) (c.fact 37) rfl (He.glo_ok X Gn (c.fact 38))) (fExm_ok (c.fact 49)) Y34 Y29 Y24 Y32 Y18 Y0 Y1⟩
  obtain ⟨fd36, F36⟩ := c.def_ 36
  have B36 : Binds K fd36 ["_law_width", "_law_text_here"] [] := F36.binds fun _ _ _ _ _ _ us hl => match us, hl with | [_, _], _ => rfl
  have Y36 : Fn0 G P w mg base 9 "_law_is_refused" C_refused2 := ⟨_, He.glo_ok X Gn (c.fact 52), F36.kp, ok_law_is_refused F36 B36 KT (fXC_ok (G := G) (c.fact 28) rfl (He.glo_ok X Gn (c.fact 29))) (fExm_ok (c.fact 51)) Y24⟩
  obtain ⟨fd37, F37⟩ := c.def_ 37
  have B37 : Binds K fd37 ["_law_source_here", "_law_text_here"] [] := F37.binds fun _ _ _ _ _ _ us hl => match us, hl with | [_, _], _ => rfl
  have Y37 : Fn1R G P w mg base 3 "_law_bent" B_bent R_bent := ⟨_, He.glo_ok X Gn (c.fact 53), F37.kp, ok_law_bent F37 B37 T Y27 Y28⟩
  exact ok_law FL bL T Y25 Y26 Y27 Y28 Y30 Y31 Y37 Y35 Y36
end Pr
open PySem PySem.W PySem.Calls PyProof.Rows
theorem PySem.Challenge.cw_countcycles_k02_texts_of_tables_holds : PySem.Challenge.rw_countcycles_k02_texts_of_tables.Holds := by
  w_on; o_law
  refine HandSHeadRun.head_any (r := OpenLaw.row PySem.Challenge.rw_countcycles_k02_texts_of_tables) (q := view (OpenLaw.row PySem.Challenge.rw_countcycles_k02_texts_of_tables).prog [48]) (H := Pr.hk) (ob := Pr.hob) (M := 8000) (loose := Pr.hnm) (d := HandSHeadRun.topDef (OpenLaw.row PySem.Challenge.rw_countcycles_k02_texts_of_tables).prog 48) (kwd := []) Pr.hob_eq
    (by kernel_rfl) (fun s => by kernel_rfl) Pr.hrun (by kernel_rfl) (by kernel_rfl) (by kernel_rfl) (by rfl) (by first | assumption | decide +kernel) (by decide +kernel) ⟨rfl, rfl, rfl, rfl, rfl, by decide +kernel⟩ ?hw ?hc
  case hw => w_witness2
  case hc =>
    refine Fx.walk_G (l := PySem.Challenge.rw_countcycles_k02_texts_of_tables) (n := 63) (k := 10) rfl (by decide) (by kernel_rfl) ⟨rfl, by decide, by decide⟩ ?F
    intro w mg fa h Y G hmg0
    obtain ⟨K, KX, c⟩ := Y
    have hmg : mg ("law" : PySem.Str) = some (.ref fa) := by
      have e : (HandSHeadRun.topDef (OpenLaw.row PySem.Challenge.rw_countcycles_k02_texts_of_tables).prog 48).name = ("law" : PySem.Str) := by kernel_rfl
      rw [← e]
      exact hmg0
    obtain ⟨fd, hb, hF⟩ := Pr.hfacts (P := (PySem.Challenge.rw_countcycles_k02_texts_of_tables).prog) (w := w) KX G hmg c
    exact ⟨K, Fx.sp0 (Pr.gx K) Pr.C_law, KX, fun H a ns hl hS => ⟨H, [.scr ns], .val (.bl true), L2.Same.refl H, ⟨_, [], rfl, ⟨a, rfl, hS⟩, rfl⟩, ⟨ns, rfl, rfl⟩, fun v F' H' g q => q⟩, hF⟩


